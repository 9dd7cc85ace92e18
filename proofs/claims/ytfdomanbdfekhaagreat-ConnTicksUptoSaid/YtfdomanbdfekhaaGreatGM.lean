/-
  SEVERAL TEXTS IN ONE: each with its own comment.
-/
import Derived.Test.YtfdomanbdfekhaaGreatGA
import Derived.Test.YtfdomanbdfekhaaGreatGL
import Derived.Test.YtfdomanbdfekhaaGreatCnFr
/-
  conn.Open and the reference's ConnOpened: what each answers.
-/
set_option linter.unusedVariables false
set_option linter.unusedSimpArgs false
set_option linter.unusedVariables false
namespace Go.Proofs.YtfdomanbdfekhaaGreat
set_option maxRecDepth 100000
attribute [local irreducible] Run RunL QStep GStep Fn Less PL FnM

/-- a lane that was just opened -/
def lnNew (id : Int) : DLane := ⟨id, ⟨0, [], -1, 300⟩, [], false, false, ⟨[], false, 0, 300, [], [], false, false⟩⟩
def cnOpened (c : DConn) : DConn := { c with Lanes := c.Lanes ++ [lnNew c.Opened], Opened := c.Opened + 1 }
/-- P18.4 -/
noncomputable def cnOpenR (c : DConn) : DConn × Int × Int :=
  if cnFlt c = 0 then (if c.Closed = true then (default, 0, 17) else if c.Client = false then (default, 0, 2) else if c.Opened ≥ c.Ids ∨ c.Lanes.length = 4 then (default, 0, 8) else (cnOpened c, c.Opened, 0)) else (default, 0, 9)
def encCnIE (r : DConn × Int × Int) : V := .tup [.agg (encConn r.1), .lit (.int .i64 r.2.1), .lit (.int .i64 r.2.2)]

/-- its cells as they are built -/
def lnRaw (id : Int) : List V := [.lit (.int .i64 id), .lit (.int .i64 0), .lit (.slice none 0 0), .lit (.int .i64 (-1)), .lit (.int .i64 300), .lit (.slice none 0 0), .lit (.bool false), .lit (.bool false), .lit (.slice none 0 0), .lit (.bool false), .lit (.int .i64 0), .lit (.int .i64 300), .lit (.slice none 0 0), .lit (.slice none 0 0), .lit (.bool false), .lit (.bool false)]
/-- the place of a lane; where there is none, their number -/
def lnIx : List DLane → Int → Nat
  | [], _ => 0
  | l :: r, id => if l.Id = id then 0 else lnIx r id + 1
theorem lnIx_le : ∀ (l : List DLane) (id : Int), lnIx l id ≤ l.length
  | [], _ => Nat.le_refl _
  | l :: r, id => by
    unfold lnIx
    split
    · simp
    · have := lnIx_le r id; simp; omega
theorem lnIx_at : ∀ (l : List DLane) (id : Int), lnIx l id < l.length → (l.getD (lnIx l id) default).Id = id
  | [], _, h => by simp [lnIx] at h
  | l :: r, id, h => by
    unfold lnIx at h ⊢
    split
    · rename_i e; simpa using e
    · rename_i e
      rw [if_neg e] at h
      have := lnIx_at r id (by simpa using h)
      simpa using this
theorem lnIx_bef : ∀ (l : List DLane) (id : Int) (k : Nat), k < lnIx l id → (l.getD k default).Id ≠ id
  | [], _, k, h => by simp [lnIx] at h
  | l :: r, id, k, h => by
    unfold lnIx at h
    split at h
    · omega
    · rename_i e
      cases k with
      | zero => simpa using e
      | succ k => simpa using lnIx_bef r id k (by omega)
theorem lnIx_of {l : List DLane} {id : Int} {k : Nat} (hk : k < l.length) (h1 : k ≤ lnIx l id) (h2 : (l.getD k default).Id = id) : lnIx l id = k := by
  rcases Nat.lt_or_ge k (lnIx l id) with h | h
  · exact absurd h2 (lnIx_bef l id k h)
  · omega
theorem lnIx_step {l : List DLane} {id : Int} {k : Nat} (hk : k < l.length) (h1 : k ≤ lnIx l id) (h2 : ¬ (l.getD k default).Id = id) : k + 1 ≤ lnIx l id := by
  rcases Nat.lt_or_ge k (lnIx l id) with h | h
  · exact h
  · have e : lnIx l id = k := by omega
    exact absurd (e ▸ lnIx_at l id (by omega)) h2
def lnP (l : List DLane) (id : Int) : V := if lnIx l id < l.length then .ptr 1 (lnIx l id) 16 0 else .lit (.pointer none)
set_option maxHeartbeats 4000000 in
theorem endLane_fnm (c : DConn) (id : Int) (hl : c.Lanes.length ≤ 1000000) :
    FnM Tryz.prog 35 [.ptr 0 0 0 0, .lit (.int .i64 id)] [(0, some (.box 44 (connC c (.own 1) (.own 2)))), (1, some (.row 61 16 (c.Lanes.map encLane))), (2, some (.row 71 7 (c.Queue.map encFrame)))] 3
      (lnP c.Lanes id) [(0, some (.box 44 (connC c (.own 1) (.own 2)))), (1, some (.row 61 16 (c.Lanes.map encLane))), (2, some (.row 71 7 (c.Queue.map encFrame)))] 3 := by
  have hle := lnIx_le c.Lanes id
  generalize hP : lnP c.Lanes id = R
  unfold lnP at hP
  unfold connC
  refine fnm_of_run (by kernel_rfl) Tryz.func35 rfl (by kernel_rfl) (by rfl) ?_
  (repeat' first | (refine go_ ?_; ((repeat' first | exact True.intro | refine Two.mk ?_ ?_); all_goals intros)) | fail "")
  refine r_for (fun k : Nat => ⟨[(0, .ptr 0 0 0 0), (1, .lit (.int .i64 id)), (11, .lit (.int .i64 c.Lanes.length)), (12, .lit (.int .i64 k))], [(0, some (.box 44 [.lit (.bool c.Client), .lit (.int .i64 c.Space.Next), .ro (c.Space.Sent.map encParcel), .lit (.int .i64 c.Space.Top), .ro (c.Space.Heard.map encRange), .ro (c.Space.Skip.map encI), .lit (.int .i64 c.Pace.Window), .lit (.int .i64 c.Pace.Thresh), .lit (.int .i64 c.Pace.Flying), .lit (.int .i64 c.Pace.Since), .lit (.int .i64 c.Flow.Max), .lit (.int .i64 c.Flow.Used), .lit (.int .i64 c.Credit.Max), .lit (.int .i64 c.Credit.Used), .lit (.int .i64 c.Ids), .lit (.int .i64 c.Grant), .lit (.int .i64 c.Opened), .own 1, .lit (.bool c.Owes), .own 2, .lit (.int .i64 c.Last), .lit (.int .i64 c.Resets), .lit (.bool c.Closed), .lit (.int .i64 c.Code)])), (1, some (.row 61 16 (c.Lanes.map encLane))), (2, some (.row 71 7 (c.Queue.map encFrame)))], 3, Tryz.f35.ntmps⟩)
    (fun k => k ≤ lnIx c.Lanes id) (fun k => c.Lanes.length - k) 0 (Nat.zero_le _) (by (exact lessA_)) ?_
  intro k hk
  by_cases hkn : k < c.Lanes.length
  · by_cases he : (c.Lanes.getD k default).Id = id
    · have hx := lnIx_of hkn hk he
      rw [hx, if_pos hkn] at hP
      subst hP
      (repeat' first | (refine go_ ?_; ((repeat' first | exact True.intro | refine Two.mk ?_ ?_); all_goals intros)) | fail "")
      all_goals first
        | (exact endmA_)
        | skip
    · have hx := lnIx_step hkn hk he
      (repeat' first | (refine go_ ?_; ((repeat' first | exact True.intro | refine Two.mk ?_ ?_); all_goals intros)) | fail "")
      all_goals first
        | (refine ⟨k + 1, ?_, ?_, ?_⟩; rotate_left 2; (exact lessA_); (focus (omega)); (focus (exact hx)))
        | skip
  · have hkl : k = c.Lanes.length := by omega
    rw [if_neg (by omega)] at hP
    subst hP
    subst hkl
    (repeat' first | (refine go_ ?_; ((repeat' first | exact True.intro | refine Two.mk ?_ ?_); all_goals intros)) | fail "")
    all_goals first
      | (exact endmA_)
      | skip
end Go.Proofs.YtfdomanbdfekhaaGreat

/-
  What an end of a connection is to tell: end.tell and the reference's queued.
-/
set_option linter.unusedVariables false
set_option linter.unusedSimpArgs false
set_option linter.unusedVariables false
namespace Go.Proofs.YtfdomanbdfekhaaGreat
set_option maxRecDepth 100000
attribute [local irreducible] Run RunL QStep GStep Fn Less PL FnM

/-- frames that tell the same of one lane -/
def qSame (f x : DFrame) : Prop := x.Kind = f.Kind ∧ x.Id = f.Id ∧ f.Kind ≠ 27
/-- the place of a frame that tells the same; where there is none, their number -/
noncomputable def qIx : List DFrame → DFrame → Nat
  | [], _ => 0
  | x :: r, f => if yes (qSame f x) = true then 0 else qIx r f + 1
theorem qIx_le : ∀ (l : List DFrame) (f : DFrame), qIx l f ≤ l.length
  | [], _ => Nat.le_refl _
  | x :: r, f => by
    unfold qIx
    split
    · simp
    · have := qIx_le r f; simp; omega
theorem qIx_at : ∀ (l : List DFrame) (f : DFrame), qIx l f < l.length → qSame f (l.getD (qIx l f) default)
  | [], _, h => by simp [qIx] at h
  | x :: r, f, h => by
    unfold qIx at h ⊢
    split
    · rename_i e; exact yes_t.1 e
    · rename_i e
      rw [if_neg e] at h
      have := qIx_at r f (by simpa using h)
      simpa using this
theorem qIx_bef : ∀ (l : List DFrame) (f : DFrame) (k : Nat), k < qIx l f → ¬ qSame f (l.getD k default)
  | [], _, k, h => by simp [qIx] at h
  | x :: r, f, k, h => by
    unfold qIx at h
    split at h
    · omega
    · rename_i e
      cases k with
      | zero => exact fun hs => e (yes_of (by simpa using hs))
      | succ k => simpa using qIx_bef r f k (by omega)
theorem qIx_of {l : List DFrame} {f : DFrame} {k : Nat} (hk : k < l.length) (h1 : k ≤ qIx l f) (h2 : qSame f (l.getD k default)) : qIx l f = k := by
  rcases Nat.lt_or_ge k (qIx l f) with h | h
  · exact absurd h2 (qIx_bef l f k h)
  · omega
theorem qIx_step {l : List DFrame} {f : DFrame} {k : Nat} (hk : k < l.length) (h1 : k ≤ qIx l f) (h2 : ¬ qSame f (l.getD k default)) : k + 1 ≤ qIx l f := by
  rcases Nat.lt_or_ge k (qIx l f) with h | h
  · exact h
  · have e : qIx l f = k := by omega
    exact absurd (e ▸ qIx_at l f (by omega)) h2
/-- a frame is told -/
noncomputable def qTell (l : List DFrame) (f : DFrame) : List DFrame × Int := if qIx l f < l.length then (l.set (qIx l f) f, 0) else if l.length = 12 then (l, 8) else (l ++ [f], 0)
theorem qTell_len (l : List DFrame) (f : DFrame) (h : l.length ≤ 12) : (qTell l f).1.length ≤ 12 := by
  unfold qTell
  split
  · rw [List.length_set]; exact h
  · split
    · exact h
    · rw [List.length_append, List.length_singleton]; omega
theorem qTell_wf (l : List DFrame) (f : DFrame) (hl : ∀ y, y ∈ l → wfFrame y) (hf : wfFrame f) : ∀ y, y ∈ (qTell l f).1 → wfFrame y := by
  intro y hy
  unfold qTell at hy
  split at hy
  · rcases List.mem_or_eq_of_mem_set hy with h | h
    · exact hl y h
    · exact h ▸ hf
  · split at hy
    · exact hl y hy
    · rcases List.mem_append.1 hy with h | h
      · exact hl y h
      · rw [List.mem_singleton] at h; exact h ▸ hf
def cnQ (c : DConn) (q : List DFrame) : DConn := { c with Queue := q }
set_option maxHeartbeats 4000000 in
theorem queued_fn (c : DConn) (f : DFrame) (hl : c.Queue.length ≤ 12) : Fn Tryz.prog 72 [.agg (encConn c), .agg (encFrame f)] (.tup [.agg (encConn (cnQ c (qTell c.Queue f).1)), .lit (.int .i64 (qTell c.Queue f).2)]) := by
  have hle := qIx_le c.Queue f
  have hat : ∀ i, i < c.Queue.length → eAt (c.Queue.map encFrame) i = encFrame (c.Queue.getD i default) := fun i hi => eAt_map encFrame hi
  generalize hR : qTell c.Queue f = R
  unfold qTell at hR
  generalize hZ : encConn (cnQ c R.1) = Z
  unfold cnQ encConn at hZ
  dsimp only at hZ
  subst hZ
  refine fn_of_run (by kernel_rfl) Tryz.func72 rfl (by kernel_rfl) ?_
  (repeat' first | (refine s_app (r := c.Queue.map encFrame) ?_ ?_ ?_ ?_ (h := ?_); (focus (first | with_reducible rfl | with_reducible exact List.nil_append _ | with_reducible exact (List.map_append ..).symm | (rw [take_snoc (by assumption), List.map_append]; rfl) | (rw [List.map_append]; rfl) | (simp; done))); (focus (first | exact len_none | exact len_one rfl | exact len_two rfl rfl | exact len_enc (fun _ => rfl))); (focus ((conv => lhs; rhs; whnf); simp only [List.length_map, List.length_append, List.length_cons, List.length_nil, List.length_take]; omega)); (focus (simp only [List.length_map, List.length_append, List.length_cons, List.length_nil, List.length_take]; omega))) | (refine s_app0R (r := c.Queue.map encFrame) ?_ ?_ ?_ ?_ (h := ?_); (focus (first | with_reducible rfl | with_reducible exact List.nil_append _ | with_reducible exact (List.map_append ..).symm | (rw [take_snoc (by assumption), List.map_append]; rfl) | (rw [List.map_append]; rfl) | (simp; done))); (focus (first | exact len_none | exact len_one rfl | exact len_two rfl rfl | exact len_enc (fun _ => rfl))); (focus ((conv => lhs; rhs; whnf); simp only [List.length_map, List.length_append, List.length_cons, List.length_nil, List.length_take]; omega)); (focus (simp only [List.length_map, List.length_append, List.length_cons, List.length_nil, List.length_take]; omega))) | (refine p_app (r := c.Queue.map encFrame) ?_ ?_ ?_ ?_ (h := ?_); (focus (first | with_reducible rfl | with_reducible exact List.nil_append _ | with_reducible exact (List.map_append ..).symm | (rw [take_snoc (by assumption), List.map_append]; rfl) | (rw [List.map_append]; rfl) | (simp; done))); (focus (first | exact len_none | exact len_one rfl | exact len_two rfl rfl | exact len_enc (fun _ => rfl))); (focus ((conv => lhs; rhs; whnf); simp only [List.length_map, List.length_append, List.length_cons, List.length_nil, List.length_take]; omega)); (focus (simp only [List.length_map, List.length_append, List.length_cons, List.length_nil, List.length_take]; omega))) | (refine p_app0R (r := c.Queue.map encFrame) ?_ ?_ ?_ ?_ (h := ?_); (focus (first | with_reducible rfl | with_reducible exact List.nil_append _ | with_reducible exact (List.map_append ..).symm | (rw [take_snoc (by assumption), List.map_append]; rfl) | (rw [List.map_append]; rfl) | (simp; done))); (focus (first | exact len_none | exact len_one rfl | exact len_two rfl rfl | exact len_enc (fun _ => rfl))); (focus ((conv => lhs; rhs; whnf); simp only [List.length_map, List.length_append, List.length_cons, List.length_nil, List.length_take]; omega)); (focus (simp only [List.length_map, List.length_append, List.length_cons, List.length_nil, List.length_take]; omega))) | (refine go_ ?_; ((repeat' first | exact True.intro | refine Two.mk ?_ ?_); all_goals intros)) | fail "")
  refine r_for (fun k : Nat => ⟨[(2, .ptr 0 0 0 0), (3, .ptr 1 0 0 0), (4, .ptr 2 0 0 0), (6, .own 3), (13, .own 3), (14, .lit (.int .i64 c.Queue.length)), (15, .lit (.int .i64 k))], [(0, some (.box 34 (encConn c))), (1, some (.box 71 (encFrame f))), (2, some (.box 34 [.lit (.bool false), .lit (.int .i64 0), .lit (.slice none 0 0), .lit (.int .i64 0), .lit (.slice none 0 0), .lit (.slice none 0 0), .lit (.int .i64 0), .lit (.int .i64 0), .lit (.int .i64 0), .lit (.int .i64 0), .lit (.int .i64 0), .lit (.int .i64 0), .lit (.int .i64 0), .lit (.int .i64 0), .lit (.int .i64 0), .lit (.int .i64 0), .lit (.int .i64 0), .lit (.slice none 0 0), .lit (.bool false), .lit (.slice none 0 0), .lit (.int .i64 0), .lit (.int .i64 0), .lit (.bool false), .lit (.int .i64 0)])), (3, some (.row 71 7 (c.Queue.map encFrame)))], 4, Tryz.f72.ntmps⟩)
    (fun k => k ≤ qIx c.Queue f) (fun k => c.Queue.length - k) 0 (Nat.zero_le _) (by (exact lessA_)) ?_
  intro k hk
  by_cases hkn : k < c.Queue.length
  · by_cases he : qSame f (c.Queue.getD k default)
    · have hx := qIx_of hkn hk he
      rw [hx, if_pos hkn] at hR
      subst hR
      obtain ⟨e1, e2, e3⟩ := he
      (repeat' first | (refine s_set (r := (c.Queue.set k f).map encFrame) ?_ ?_ (h := ?_); (focus (first | omega | (simp only [List.length_map, List.length_append, List.length_take, List.length_drop, List.length_replicate]; omega))); (focus ((rw [eAt_map encFrame hkn, List.map_set]; rfl)))) | (refine p_set (r := (c.Queue.set k f).map encFrame) ?_ ?_ (h := ?_); (focus (first | omega | (simp only [List.length_map, List.length_append, List.length_take, List.length_drop, List.length_replicate]; omega))); (focus ((rw [eAt_map encFrame hkn, List.map_set]; rfl)))) | (refine go_ ?_; ((repeat' first | exact True.intro | refine Two.mk ?_ ?_); all_goals intros)) | fail "")
      all_goals first
        | (exact endwA_)
        | (exfalso; omega)
        | skip
    · have hx := qIx_step hkn hk he
      unfold qSame at he
      (repeat' first | (refine go_ ?_; ((repeat' first | exact True.intro | refine Two.mk ?_ ?_); all_goals intros)) | fail "")
      all_goals first
        | (refine ⟨k + 1, ?_, ?_, ?_⟩; rotate_left 2; (exact lessA_); (focus (omega)); (focus (exact hx)))
        | (exfalso; omega)
        | skip
  · have hkl : k = c.Queue.length := by omega
    rw [if_neg (by omega)] at hR
    subst hkl
    by_cases h12 : c.Queue.length = 12
    · rw [if_pos h12] at hR
      subst hR
      (repeat' first | (refine go_ ?_; ((repeat' first | exact True.intro | refine Two.mk ?_ ?_); all_goals intros)) | fail "")
      all_goals first
        | (exact endwA_)
        | (exfalso; omega)
        | skip
    · rw [if_neg h12] at hR
      subst hR
      (repeat' first | (refine s_app (r := (c.Queue ++ [f]).map encFrame) ?_ ?_ ?_ ?_ (h := ?_); (focus (first | ((rw [List.map_append]; rfl)) | with_reducible rfl | with_reducible exact List.nil_append _ | with_reducible exact (List.map_append ..).symm | (rw [take_snoc (by assumption), List.map_append]; rfl) | (rw [List.map_append]; rfl) | (simp; done))); (focus (first | exact len_none | exact len_one rfl | exact len_two rfl rfl | exact len_enc (fun _ => rfl))); (focus ((conv => lhs; rhs; whnf); simp only [List.length_map, List.length_append, List.length_cons, List.length_nil, List.length_take]; omega)); (focus (simp only [List.length_map, List.length_append, List.length_cons, List.length_nil, List.length_take]; omega))) | (refine s_app0R (r := (c.Queue ++ [f]).map encFrame) ?_ ?_ ?_ ?_ (h := ?_); (focus (first | ((rw [List.map_append]; rfl)) | with_reducible rfl | with_reducible exact List.nil_append _ | with_reducible exact (List.map_append ..).symm | (rw [take_snoc (by assumption), List.map_append]; rfl) | (rw [List.map_append]; rfl) | (simp; done))); (focus (first | exact len_none | exact len_one rfl | exact len_two rfl rfl | exact len_enc (fun _ => rfl))); (focus ((conv => lhs; rhs; whnf); simp only [List.length_map, List.length_append, List.length_cons, List.length_nil, List.length_take]; omega)); (focus (simp only [List.length_map, List.length_append, List.length_cons, List.length_nil, List.length_take]; omega))) | (refine p_app (r := (c.Queue ++ [f]).map encFrame) ?_ ?_ ?_ ?_ (h := ?_); (focus (first | ((rw [List.map_append]; rfl)) | with_reducible rfl | with_reducible exact List.nil_append _ | with_reducible exact (List.map_append ..).symm | (rw [take_snoc (by assumption), List.map_append]; rfl) | (rw [List.map_append]; rfl) | (simp; done))); (focus (first | exact len_none | exact len_one rfl | exact len_two rfl rfl | exact len_enc (fun _ => rfl))); (focus ((conv => lhs; rhs; whnf); simp only [List.length_map, List.length_append, List.length_cons, List.length_nil, List.length_take]; omega)); (focus (simp only [List.length_map, List.length_append, List.length_cons, List.length_nil, List.length_take]; omega))) | (refine p_app0R (r := (c.Queue ++ [f]).map encFrame) ?_ ?_ ?_ ?_ (h := ?_); (focus (first | ((rw [List.map_append]; rfl)) | with_reducible rfl | with_reducible exact List.nil_append _ | with_reducible exact (List.map_append ..).symm | (rw [take_snoc (by assumption), List.map_append]; rfl) | (rw [List.map_append]; rfl) | (simp; done))); (focus (first | exact len_none | exact len_one rfl | exact len_two rfl rfl | exact len_enc (fun _ => rfl))); (focus ((conv => lhs; rhs; whnf); simp only [List.length_map, List.length_append, List.length_cons, List.length_nil, List.length_take]; omega)); (focus (simp only [List.length_map, List.length_append, List.length_cons, List.length_nil, List.length_take]; omega))) | (refine go_ ?_; ((repeat' first | exact True.intro | refine Two.mk ?_ ?_); all_goals intros)) | fail "")
      all_goals first
        | (exact endwA_)
        | (exfalso; omega)
        | skip
set_option maxHeartbeats 4000000 in
theorem endTell_fnm (c : DConn) (f : DFrame) (hl : c.Queue.length ≤ 12) :
    FnM Tryz.prog 61 [.ptr 0 0 0 0, .agg (encFrame f)] [(0, some (.box 44 (connC c (.own 1) (.own 2)))), (1, some (.row 61 16 (c.Lanes.map encLane))), (2, some (.row 71 7 (c.Queue.map encFrame)))] 3
      (.lit (.int .i64 (qTell c.Queue f).2)) [(0, some (.box 44 (connC c (.own 1) (.own 3)))), (1, some (.row 61 16 (c.Lanes.map encLane))), (3, some (.row 71 7 ((qTell c.Queue f).1.map encFrame)))] 4 := by
  have hle := qIx_le c.Queue f
  have hat : ∀ i, i < c.Queue.length → eAt (c.Queue.map encFrame) i = encFrame (c.Queue.getD i default) := fun i hi => eAt_map encFrame hi
  generalize hR : qTell c.Queue f = R
  unfold qTell at hR
  unfold connC
  refine fnm_of_run (by kernel_rfl) Tryz.func61 rfl (by kernel_rfl) (by rfl) ?_
  (repeat' first | (refine go_ ?_; ((repeat' first | exact True.intro | refine Two.mk ?_ ?_); all_goals intros)) | fail "")
  refine r_for (fun k : Nat => ⟨[(0, .ptr 0 0 0 0), (3, .ptr 3 0 0 0), (11, .own 4), (12, .lit (.int .i64 c.Queue.length)), (13, .lit (.int .i64 k))], [(0, some (.box 44 (connC c (.own 1) (.own 4)))), (1, some (.row 61 16 (c.Lanes.map encLane))), (3, some (.box 71 (encFrame f))), (4, some (.row 71 7 (c.Queue.map encFrame)))], 5, Tryz.f61.ntmps⟩)
    (fun k => k ≤ qIx c.Queue f) (fun k => c.Queue.length - k) 0 (Nat.zero_le _) (by first | exact mv_ 2 | skip) ?_
  intro k hk
  unfold connC
  by_cases hkn : k < c.Queue.length
  · by_cases he : qSame f (c.Queue.getD k default)
    · have hx := qIx_of hkn hk he
      rw [hx, if_pos hkn] at hR
      subst hR
      obtain ⟨e1, e2, e3⟩ := he
      (repeat' first | (refine s_set (r := (c.Queue.set k f).map encFrame) ?_ ?_ (h := ?_); (focus (first | omega | (simp only [List.length_map, List.length_append, List.length_take, List.length_drop, List.length_replicate]; omega))); (focus ((rw [eAt_map encFrame hkn, List.map_set]; rfl)))) | (refine p_set (r := (c.Queue.set k f).map encFrame) ?_ ?_ (h := ?_); (focus (first | omega | (simp only [List.length_map, List.length_append, List.length_take, List.length_drop, List.length_replicate]; omega))); (focus ((rw [eAt_map encFrame hkn, List.map_set]; rfl)))) | (refine go_ ?_; ((repeat' first | exact True.intro | refine Two.mk ?_ ?_); all_goals intros)) | fail "")
      all_goals first
        | (exact endmA_)
        | (exfalso; omega)
        | skip
    · have hx := qIx_step hkn hk he
      unfold qSame at he
      (repeat' first | (refine go_ ?_; ((repeat' first | exact True.intro | refine Two.mk ?_ ?_); all_goals intros)) | fail "")
      all_goals first
        | (refine ⟨k + 1, ?_, ?_, ?_⟩; rotate_left 2; (exact lessA_); (focus (omega)); (focus (exact hx)))
        | (exfalso; omega)
        | skip
  · have hkl : k = c.Queue.length := by omega
    rw [if_neg (by omega)] at hR
    subst hkl
    by_cases h12 : c.Queue.length = 12
    · rw [if_pos h12] at hR
      subst hR
      (repeat' first | (refine go_ ?_; ((repeat' first | exact True.intro | refine Two.mk ?_ ?_); all_goals intros)) | fail "")
      all_goals first
        | (exact endmA_)
        | (exfalso; omega)
        | skip
    · rw [if_neg h12] at hR
      subst hR
      (repeat' first | (refine s_app (r := (c.Queue ++ [f]).map encFrame) ?_ ?_ ?_ ?_ (h := ?_); (focus (first | ((rw [List.map_append]; rfl)) | with_reducible rfl | with_reducible exact List.nil_append _ | with_reducible exact (List.map_append ..).symm | (rw [take_snoc (by assumption), List.map_append]; rfl) | (rw [List.map_append]; rfl) | (simp; done))); (focus (first | exact len_none | exact len_one rfl | exact len_two rfl rfl | exact len_enc (fun _ => rfl))); (focus ((conv => lhs; rhs; whnf); simp only [List.length_map, List.length_append, List.length_cons, List.length_nil, List.length_take]; omega)); (focus (simp only [List.length_map, List.length_append, List.length_cons, List.length_nil, List.length_take]; omega))) | (refine s_app0R (r := (c.Queue ++ [f]).map encFrame) ?_ ?_ ?_ ?_ (h := ?_); (focus (first | ((rw [List.map_append]; rfl)) | with_reducible rfl | with_reducible exact List.nil_append _ | with_reducible exact (List.map_append ..).symm | (rw [take_snoc (by assumption), List.map_append]; rfl) | (rw [List.map_append]; rfl) | (simp; done))); (focus (first | exact len_none | exact len_one rfl | exact len_two rfl rfl | exact len_enc (fun _ => rfl))); (focus ((conv => lhs; rhs; whnf); simp only [List.length_map, List.length_append, List.length_cons, List.length_nil, List.length_take]; omega)); (focus (simp only [List.length_map, List.length_append, List.length_cons, List.length_nil, List.length_take]; omega))) | (refine p_app (r := (c.Queue ++ [f]).map encFrame) ?_ ?_ ?_ ?_ (h := ?_); (focus (first | ((rw [List.map_append]; rfl)) | with_reducible rfl | with_reducible exact List.nil_append _ | with_reducible exact (List.map_append ..).symm | (rw [take_snoc (by assumption), List.map_append]; rfl) | (rw [List.map_append]; rfl) | (simp; done))); (focus (first | exact len_none | exact len_one rfl | exact len_two rfl rfl | exact len_enc (fun _ => rfl))); (focus ((conv => lhs; rhs; whnf); simp only [List.length_map, List.length_append, List.length_cons, List.length_nil, List.length_take]; omega)); (focus (simp only [List.length_map, List.length_append, List.length_cons, List.length_nil, List.length_take]; omega))) | (refine p_app0R (r := (c.Queue ++ [f]).map encFrame) ?_ ?_ ?_ ?_ (h := ?_); (focus (first | ((rw [List.map_append]; rfl)) | with_reducible rfl | with_reducible exact List.nil_append _ | with_reducible exact (List.map_append ..).symm | (rw [take_snoc (by assumption), List.map_append]; rfl) | (rw [List.map_append]; rfl) | (simp; done))); (focus (first | exact len_none | exact len_one rfl | exact len_two rfl rfl | exact len_enc (fun _ => rfl))); (focus ((conv => lhs; rhs; whnf); simp only [List.length_map, List.length_append, List.length_cons, List.length_nil, List.length_take]; omega)); (focus (simp only [List.length_map, List.length_append, List.length_cons, List.length_nil, List.length_take]; omega))) | (refine go_ ?_; ((repeat' first | exact True.intro | refine Two.mk ?_ ?_); all_goals intros)) | fail "")
      all_goals first
        | (exact endmA_)
        | (exfalso; omega)
        | skip
end Go.Proofs.YtfdomanbdfekhaaGreat
