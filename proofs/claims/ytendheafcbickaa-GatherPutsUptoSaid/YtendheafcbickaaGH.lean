/-
  SEVERAL TEXTS IN ONE: each with its own comment.
-/
import Derived.Test.YtendheafcbickaaGA
import Derived.Test.YtendheafcbickaaGB
import Derived.Test.YtendheafcbickaaGC
import Derived.Test.YtendheafcbickaaProg
/-
  gather.Check and the reference's: what each answers. No condition.
-/
set_option linter.unusedVariables false
set_option linter.unusedSimpArgs false
set_option linter.unusedVariables false
namespace Go.Proofs.Ytendheafcbickaa
set_option maxRecDepth 100000
attribute [local irreducible] Run RunL QStep GStep Fn Less

/-- where pieces end that lie behind a place, if they may lie so -/
def gEnd : Bool → Int → List DPiece → Option Int
  | _, a, [] => some a
  | f, a, p :: l => if 0 < p.Data.length ∧ a ≤ p.Off ∧ p.Off + p.Data.length ≤ 4611686018427387903 ∧ (f = true ∨ a < p.Off) then gEnd false (p.Off + p.Data.length) l else none
/-- P8.1 -/
def gHead (g : DGather) : Prop := 0 ≤ g.Done ∧ -1 ≤ g.Final ∧ g.Done ≤ g.Window ∧ g.Window ≤ 4611686018427387903 ∧ g.Held.length ≤ 4
instance (g : DGather) : Decidable (gHead g) := inferInstanceAs (Decidable (_ ∧ _))
def gTail (g : DGather) : Option Int → Bool
  | some a => decide (a ≤ g.Window) && (decide (g.Final < 0) || decide (a ≤ g.Final))
  | none => false
def gatherFlt (g : DGather) : Int := if gHead g ∧ gTail g (gEnd true g.Done g.Held) = true then 0 else 9

theorem flt_head {g : DGather} (h : ¬ gHead g) : gatherFlt g = 9 := if_neg (fun hh => h hh.1)
theorem flt_tail {g : DGather} (h : gTail g (gEnd true g.Done g.Held) = false) : gatherFlt g = 9 := if_neg (fun hh => by rw [h] at hh; exact Bool.false_ne_true hh.2)
theorem flt_ok {g : DGather} (h : gHead g) (h2 : gTail g (gEnd true g.Done g.Held) = true) : gatherFlt g = 0 := if_pos ⟨h, h2⟩
def gInv (g : DGather) (x : Nat × Bool × Int) : Prop :=
  x.1 ≤ g.Held.length ∧ (x.2.1 = false → gatherFlt g = 9) ∧ (x.2.1 = true → gHead g ∧ gEnd (decide (x.1 = 0)) x.2.2 (g.Held.drop x.1) = gEnd true g.Done g.Held)

set_option maxHeartbeats 1000000 in
theorem gatherCheck_fn (g : DGather) (hw : wfGather g) : Fn Try.prog 7 [.agg (encGather g)] (.lit (.int .i64 (gatherFlt g))) := by
  have hlen : g.Held.length ≤ 1000000000000000 := by have := hw.2.1; omega
  have hD : I64 g.Done := hw.1
  unfold I64 at hD
  refine fn_of_run (by kernel_rfl) Try.func7 rfl (by kernel_rfl) ?_
  refine r_seq ?_
  refine r_region ?_
  (repeat' first | (refine goS_ ?_; ((repeat' first | exact True.intro | refine Two.mk ?_ ?_); all_goals intros)) | fail "")
  refine thenQ_n ?_
  refine r_cut (fun ok : Bool => ⟨[(1, .ptr 0 0 0 0), (2, .lit (.int .i64 0)), (3, .lit (.bool ok))], [(0, some (.box 24 (encGather g)))], 1, Try.f7.ntmps⟩) (fun ok => (ok = true → gHead g) ∧ (ok = false → gatherFlt g = 9)) ?_ ?_
  · (repeat' first | (refine go_ ?_; ((repeat' first | exact True.intro | refine Two.mk ?_ ?_); all_goals intros)) | fail "")
    all_goals first
      | exact ⟨true, ⟨fun _ => (by unfold gHead; omega), fun h => absurd h (by decide)⟩, less_to⟩
      | exact ⟨false, ⟨fun h => absurd h (by decide), fun _ => flt_head (by unfold gHead; omega)⟩, less_to⟩
  rintro ok ⟨hok1, hok2⟩
  (repeat' first | (refine go_ ?_; ((repeat' first | exact True.intro | refine Two.mk ?_ ?_); all_goals intros)) | fail "")
  refine r_for (fun x : Nat × Bool × Int => ⟨[(1, .ptr 0 0 0 0), (2, .lit (.int .i64 0)), (3, .lit (.bool x.2.1)), (4, .lit (.int .i64 x.2.2)), (36, .ro (g.Held.map encPiece)), (37, .lit (.int .i64 g.Held.length)), (38, .lit (.int .i64 x.1))], [(0, some (.box 24 (encGather g)))], 1, Try.f7.ntmps⟩)
      (gInv g) (fun x => g.Held.length - x.1) (0, ok, g.Done) ⟨Nat.zero_le _, hok2, fun h => ⟨hok1 h, rfl⟩⟩ less_to ?_
  rintro ⟨k, ok, a⟩ ⟨hk, hf, ht⟩
  dsimp only at hk hf ht ⊢
  by_cases hkn : k < g.Held.length
  · have hE : gEnd (decide (k = 0)) a (g.Held.drop k) = if 0 < (g.Held.getD k default).Data.length ∧ a ≤ (g.Held.getD k default).Off ∧ (g.Held.getD k default).Off + (g.Held.getD k default).Data.length ≤ 4611686018427387903 ∧ (k = 0 ∨ a < (g.Held.getD k default).Off) then gEnd false ((g.Held.getD k default).Off + (g.Held.getD k default).Data.length) (g.Held.drop (k + 1)) else none := by
      rw [drop_cons hkn]; simp only [gEnd, decide_eq_true_eq]
    obtain ⟨hp1, hp2⟩ := hw.2.2.1 _ (getD_mem hkn)
    unfold I64 at hp1
    cases ok
    · have hf := hf rfl
      (repeat' first | (refine go_ ?_; ((repeat' first | exact True.intro | refine Two.mk ?_ ?_); all_goals intros)) | fail "")
      all_goals exact ends_ (hr := by rw [hf])
    · obtain ⟨hh, ht⟩ := ht rfl
      rw [hE] at ht
      have hg := hh
      unfold gHead at hg
      (repeat' first | (refine go_ ?_; ((repeat' first | exact True.intro | refine Two.mk ?_ ?_); all_goals intros)) | fail "")
      all_goals first
        | (refine ends_ (hr := ?_); rw [flt_tail (by rw [← ht, if_neg (by omega)]; rfl)])
        | (refine ⟨(k + 1, true, (g.Held.getD k default).Off + (g.Held.getD k default).Data.length), ?_, ?_, ?_⟩
           · dsimp only; omega
           · refine ⟨(by dsimp only; omega), (fun h => by cases h), fun _ => ⟨hh, ?_⟩⟩
             rw [if_pos (by omega)] at ht; exact ht
           · exact less_to)
  · have hkl : k = g.Held.length := by omega
    cases ok
    · have hf := hf rfl
      (repeat' first | (refine go_ ?_; ((repeat' first | exact True.intro | refine Two.mk ?_ ?_); all_goals intros)) | fail "")
      all_goals exact ends_ (hr := by rw [hf])
    · obtain ⟨hh, ht⟩ := ht rfl
      have hg := hh
      unfold gHead at hg
      rw [hkl, List.drop_length] at ht
      (repeat' first | (refine go_ ?_; ((repeat' first | exact True.intro | refine Two.mk ?_ ?_); all_goals intros)) | fail "")
      all_goals first
        | (refine ends_ (hr := ?_); rw [flt_tail (by rw [← ht]; simp [gEnd, gTail]; omega)])
        | (refine ends_ (hr := ?_); rw [flt_ok hh (by rw [← ht]; simp [gEnd, gTail]; omega)])
        | fail "left"
end Go.Proofs.Ytendheafcbickaa

/-
  The reference's GatherFault, and the laws' sameGather. No condition.
-/
set_option linter.unusedVariables false
set_option linter.unusedSimpArgs false
set_option linter.unusedVariables false
namespace Go.Proofs.Ytendheafcbickaa
set_option maxRecDepth 100000
attribute [local irreducible] Run RunL QStep GStep Fn Less PL

theorem sameGather_fn (g h : DGather) (hg : wfGather g) (hh : wfGather h) : Fn Try.prog 6 [.agg (encGather g), .agg (encGather h)] (.lit (.bool (yes (g = h)))) := by
  have l1 : g.Held.length ≤ 1000000000000000 := by have := hg.2.1; omega
  have l2 : h.Held.length ≤ 1000000000000000 := by have := hh.2.1; omega
  refine fn_of_run (by kernel_rfl) Try.func6 rfl (by kernel_rfl) ?_
  refine r_seq ?_
  refine r_region ?_
  (repeat' first | (refine goS_ ?_; ((repeat' first | exact True.intro | refine Two.mk ?_ ?_); all_goals intros)) | fail "")
  refine thenQ_n ?_
  refine r_cut (fun ok : Bool => ⟨[(2, .ptr 0 0 0 0), (3, .ptr 1 0 0 0), (4, .lit (.bool false)), (5, .lit (.bool ok))], [(0, some (.box 24 (encGather g))), (1, some (.box 24 (encGather h)))], 2, Try.f6.ntmps⟩) (fun ok => ok = true ↔ (g.Done = h.Done ∧ g.Final = h.Final ∧ g.Window = h.Window ∧ g.Held.length = h.Held.length)) ?_ ?_
  · (repeat' first | (refine go_ ?_; ((repeat' first | exact True.intro | refine Two.mk ?_ ?_); all_goals intros)) | fail "")
    all_goals first
      | exact ⟨true, ⟨fun _ => (by omega), fun _ => rfl⟩, less_to⟩
      | exact ⟨false, ⟨fun h => (by cases h), fun h => (by omega)⟩, less_to⟩
  rintro ok hok
  refine r_seq ?_
  (repeat' first | (refine go_ ?_; ((repeat' first | exact True.intro | refine Two.mk ?_ ?_); all_goals intros)) | fail "")
  refine r_for (fun x : Nat × Bool => ⟨[(2, .ptr 0 0 0 0), (3, .ptr 1 0 0 0), (4, .lit (.bool false)), (5, .lit (.bool x.2)), (6, .lit (.int .i64 x.1))], [(0, some (.box 24 (encGather g))), (1, some (.box 24 (encGather h)))], 2, Try.f6.ntmps⟩)
      (fun x => (x.2 = true → g.Done = h.Done ∧ g.Final = h.Final ∧ g.Window = h.Window) ∧ Along g.Held h.Held (g = h) x.1 x.2) (fun x => g.Held.length - x.1) (0, ok) ⟨fun h => ?_, Nat.zero_le _, fun h => ⟨?_, rfl⟩, fun h e => ?_⟩ less_to ?_
  · have := hok.1 h; omega
  · have := hok.1 h; omega
  · have := hok.2 (by rw [e]; exact ⟨rfl, rfl, rfl, rfl⟩); rw [show ok = false from h] at this; cases this
  rintro ⟨k, ok⟩ ⟨hq, hk, hs, hn⟩
  dsimp only at hk hq hs hn ⊢
  cases ok
  · have hn := hn rfl
    (repeat' first | (refine go_ ?_; ((repeat' first | exact True.intro | refine Two.mk ?_ ?_); all_goals intros)) | fail "")
    all_goals (refine ends_ (hr := ?_); exact noV hn)
  · obtain ⟨hl, ht⟩ := hs rfl
    have hq := hq rfl
    by_cases hkn : k < g.Held.length
    · (repeat' first | (refine s_yes (sameBytes_fn _ _) (ht := ?_) (hff := ?_) <;> intro _ <;> try (exfalso; omega)) | (refine p_yes (sameBytes_fn _ _) (ht := ?_) (hff := ?_) <;> intro _ <;> try (exfalso; omega)) | (refine go_ ?_; ((repeat' first | exact True.intro | refine Two.mk ?_ ?_); all_goals intros)) | fail "")
      all_goals first
        | (refine ⟨(k + 1, true), ?_, ?_, ?_⟩; rotate_left 2; (exact lessA_); (focus (dsimp only; omega)); (focus (refine ⟨fun _ => hq, (by dsimp only; omega), fun _ => ⟨hl, take_same hkn (by omega) ht ?_⟩, fun h => (by cases h)⟩; exact ext_Piece (by assumption) (by assumption))))
        | (refine ⟨(k + 1, false), ?_, ?_, ?_⟩; rotate_left 2; (exact lessA_); (focus (dsimp only; omega)); (focus (refine ⟨fun h => (by cases h), (by dsimp only; omega), fun h => (by cases h), fun _ e => ?_⟩; subst e; first | contradiction | omega | (simp_all; done))))
    · (repeat' first | (refine go_ ?_; ((repeat' first | exact True.intro | refine Two.mk ?_ ?_); all_goals intros)) | fail "")
      all_goals (refine ends_ (hr := ?_))
      refine yesV ?_
      have := take_all (by omega) (by omega) ht
      cases g; cases h; simp_all

/-- the reference does not ask at once whether Done lies within the window -/
def gHead' (g : DGather) : Prop := 0 ≤ g.Done ∧ -1 ≤ g.Final ∧ 0 ≤ g.Window ∧ g.Window ≤ 4611686018427387903 ∧ g.Held.length ≤ 4
theorem gEnd_ge : ∀ (l : List DPiece) (f : Bool) (a b : Int), gEnd f a l = some b → a ≤ b
  | [], f, a, b, h => by simp only [gEnd, Option.some.injEq] at h; omega
  | p :: l, f, a, b, h => by
    simp only [gEnd] at h
    split at h
    · have := gEnd_ge l _ _ _ h; omega
    · cases h
theorem tail_ge {g : DGather} (h : gTail g (gEnd true g.Done g.Held) = true) : g.Done ≤ g.Window := by
  cases he : gEnd true g.Done g.Held with
  | none => rw [he] at h; cases h
  | some b =>
    rw [he] at h
    have := gEnd_ge _ _ _ _ he
    simp only [gTail, Bool.and_eq_true, decide_eq_true_eq] at h
    omega
theorem flt_head' {g : DGather} (h : ¬ gHead' g) : gatherFlt g = 9 := flt_head (fun hh => h (by unfold gHead at hh; unfold gHead'; omega))
theorem flt_ok' {g : DGather} (h : gHead' g) (h2 : gTail g (gEnd true g.Done g.Held) = true) : gatherFlt g = 0 := flt_ok (by have := tail_ge h2; unfold gHead' at h; unfold gHead; omega) h2
def gInv' (g : DGather) (x : Nat × Bool × Int) : Prop :=
  x.1 ≤ g.Held.length ∧ (x.2.1 = false → gatherFlt g = 9) ∧ (x.2.1 = true → gHead' g ∧ 0 ≤ x.2.2 ∧ gEnd (decide (x.1 = 0)) x.2.2 (g.Held.drop x.1) = gEnd true g.Done g.Held)
set_option maxHeartbeats 1000000 in
theorem gatherFault_fn (g : DGather) (hw : wfGather g) : Fn Try.prog 11 [.agg (encGather g)] (.lit (.int .i64 (gatherFlt g))) := by
  have hlen : g.Held.length ≤ 1000000000000000 := by have := hw.2.1; omega
  have hD : I64 g.Done := hw.1
  unfold I64 at hD
  refine fn_of_run (by kernel_rfl) Try.func11 rfl (by kernel_rfl) ?_
  refine r_seq ?_
  refine r_region ?_
  (repeat' first | (refine goS_ ?_; ((repeat' first | exact True.intro | refine Two.mk ?_ ?_); all_goals intros)) | fail "")
  refine thenQ_n ?_
  refine r_cut (fun ok : Bool => ⟨[(1, .ptr 0 0 0 0), (2, .lit (.int .i64 0)), (3, .lit (.bool ok))], [(0, some (.box 24 (encGather g)))], 1, Try.f11.ntmps⟩) (fun ok => (ok = true → gHead' g) ∧ (ok = false → gatherFlt g = 9)) ?_ ?_
  · (repeat' first | (refine s_dec (upTo_fn _ _) (ht := ?_) (hff := ?_) <;> intro _ <;> try (exfalso; omega)) | (refine p_dec (upTo_fn _ _) (ht := ?_) (hff := ?_) <;> intro _ <;> try (exfalso; omega)) | (refine go_ ?_; ((repeat' first | exact True.intro | refine Two.mk ?_ ?_); all_goals intros)) | fail "")
    all_goals first
      | (refine ⟨true, ?_, ?_⟩; rotate_left 1; (exact lessA_); (focus (exact ⟨fun _ => (by unfold gHead'; omega), fun h => by cases h⟩)))
      | (refine ⟨false, ?_, ?_⟩; rotate_left 1; (exact lessA_); (focus (exact ⟨(fun h => by cases h), fun _ => flt_head' (by unfold gHead'; omega)⟩)))
  rintro ok ⟨hok1, hok2⟩
  (repeat' first | (refine go_ ?_; ((repeat' first | exact True.intro | refine Two.mk ?_ ?_); all_goals intros)) | fail "")
  refine r_for (fun x : Nat × Bool × Int => ⟨[(1, .ptr 0 0 0 0), (2, .lit (.int .i64 0)), (3, .lit (.bool x.2.1)), (4, .lit (.int .i64 x.2.2)), (5, .lit (.int .i64 x.1))], [(0, some (.box 24 (encGather g)))], 1, Try.f11.ntmps⟩)
      (gInv' g) (fun x => g.Held.length - x.1) (0, ok, g.Done) ⟨Nat.zero_le _, hok2, fun h => ⟨hok1 h, (hok1 h).1, rfl⟩⟩ less_to ?_
  rintro ⟨k, ok, a⟩ ⟨hk, hf, ht⟩
  dsimp only at hk hf ht ⊢
  have hA : a ≤ 9223372036854775807 ∨ a > 9223372036854775807 := by omega
  cases ok
  · have hf := hf rfl
    (repeat' first | (refine go_ ?_; ((repeat' first | exact True.intro | refine Two.mk ?_ ?_); all_goals intros)) | fail "")
    all_goals exact ends_ (hr := by rw [hf])
  obtain ⟨hh, h0, ht⟩ := ht rfl
  have hg := hh
  unfold gHead' at hg
  by_cases hkn : k < g.Held.length
  · have hE : gEnd (decide (k = 0)) a (g.Held.drop k) = if 0 < (g.Held.getD k default).Data.length ∧ a ≤ (g.Held.getD k default).Off ∧ (g.Held.getD k default).Off + (g.Held.getD k default).Data.length ≤ 4611686018427387903 ∧ (k = 0 ∨ a < (g.Held.getD k default).Off) then gEnd false ((g.Held.getD k default).Off + (g.Held.getD k default).Data.length) (g.Held.drop (k + 1)) else none := by
      rw [drop_cons hkn]; simp only [gEnd, decide_eq_true_eq]
    obtain ⟨hp1, hp2⟩ := hw.2.2.1 _ (getD_mem hkn)
    unfold I64 at hp1
    rw [hE] at ht
    (repeat' first | (refine s_dec (upTo_fn _ _) (ht := ?_) (hff := ?_) <;> intro _ <;> try (exfalso; omega)) | (refine p_dec (upTo_fn _ _) (ht := ?_) (hff := ?_) <;> intro _ <;> try (exfalso; omega)) | (refine go_ ?_; ((repeat' first | exact True.intro | refine Two.mk ?_ ?_); all_goals intros)) | fail "")
    all_goals first
      | (refine ⟨(k + 1, true, (g.Held.getD k default).Off + (g.Held.getD k default).Data.length), ?_, ?_, ?_⟩; rotate_left 2; (exact lessA_); (focus (dsimp only; omega)); (focus (refine ⟨(by dsimp only; omega), (fun h => by cases h), fun _ => ⟨hh, (by dsimp only; omega), ?_⟩⟩; rw [if_pos (by omega)] at ht; exact ht)))
      | (refine ⟨(k + 1, false, IntKind.i64.wrap ((g.Held.getD k default).Off + (g.Held.getD k default).Data.length)), ?_, ?_, ?_⟩; rotate_left 2; (exact lessA_); (focus (dsimp only; omega)); (focus (refine ⟨(by dsimp only; omega), (fun _ => flt_tail (by rw [← ht, if_neg (by omega)]; rfl)), fun h => by cases h⟩)))
      | (refine ⟨(k + 1, false, (g.Held.getD k default).Off + (g.Held.getD k default).Data.length), ?_, ?_, ?_⟩; rotate_left 2; (exact lessA_); (focus (dsimp only; omega)); (focus (refine ⟨(by dsimp only; omega), (fun _ => flt_tail (by rw [← ht, if_neg (by omega)]; rfl)), fun h => by cases h⟩)))
      | trace_state
  · have hkl : k = g.Held.length := by omega
    rw [hkl, List.drop_length] at ht
    (repeat' first | (refine go_ ?_; ((repeat' first | exact True.intro | refine Two.mk ?_ ?_); all_goals intros)) | fail "")
    all_goals first
      | (refine ends_ (hr := ?_); rw [flt_tail (by rw [← ht]; simp [gEnd, gTail]; omega)])
      | (refine ends_ (hr := ?_); rw [flt_ok' hh (by rw [← ht]; simp [gEnd, gTail]; omega)])
end Go.Proofs.Ytendheafcbickaa
