/-
  gather.Check and the reference's: what each answers. No condition.
-/
import Derived.Test.YtfdomanbdfekhaaGo
import Derived.Test.YtfdomanbdfekhaaEnc
import Derived.Test.YtfdomanbdfekhaaSeq
import Derived.Test.YtfdomanbdfekhaaProg
set_option linter.unusedVariables false
set_option linter.unusedSimpArgs false
set_option linter.unusedVariables false
namespace Go.Proofs.Ytfdomanbdfekhaa
set_option maxRecDepth 100000
attribute [local irreducible] Run RunL QStep GStep Fn Less

/-- where pieces end that lie behind a place, if they may lie so -/
def gEnd : Bool → Int → List DPiece → Option Int
  | _, a, [] => some a
  | f, a, p :: l => if 0 < p.Data.length ∧ a ≤ p.Off ∧ p.Off + p.Data.length ≤ 4611686018427387903 ∧ (f = true ∨ a < p.Off) then gEnd false (p.Off + p.Data.length) l else none
/-- P8.1 -/
def gHead (g : DGather) : Prop := 0 ≤ g.Done ∧ -1 ≤ g.Final ∧ g.Done ≤ g.Window ∧ g.Window ≤ 4611686018427387903 ∧ g.Held.length ≤ 4
instance (g : DGather) : Decidable (gHead g) := inferInstanceAs (Decidable (_ ∧ _))
def gTail (g : DGather) : Option Int → Bool
  | some a => decide (a ≤ g.Window) && (decide (g.Final < 0) || decide (a ≤ g.Final))
  | none => false
def gatherFlt (g : DGather) : Int := if gHead g ∧ gTail g (gEnd true g.Done g.Held) = true then 0 else 9

theorem flt_head {g : DGather} (h : ¬ gHead g) : gatherFlt g = 9 := if_neg (fun hh => h hh.1)
theorem flt_tail {g : DGather} (h : gTail g (gEnd true g.Done g.Held) = false) : gatherFlt g = 9 := if_neg (fun hh => by rw [h] at hh; exact Bool.false_ne_true hh.2)
theorem flt_ok {g : DGather} (h : gHead g) (h2 : gTail g (gEnd true g.Done g.Held) = true) : gatherFlt g = 0 := if_pos ⟨h, h2⟩
def gInv (g : DGather) (x : Nat × Bool × Int) : Prop :=
  x.1 ≤ g.Held.length ∧ (x.2.1 = false → gatherFlt g = 9) ∧ (x.2.1 = true → gHead g ∧ gEnd (decide (x.1 = 0)) x.2.2 (g.Held.drop x.1) = gEnd true g.Done g.Held)

set_option maxHeartbeats 1000000 in
theorem gatherCheck_fn (g : DGather) (hw : wfGather g) : Fn Try.prog 42 [.agg (encGather g)] (.lit (.int .i64 (gatherFlt g))) := by
  have hlen : g.Held.length ≤ 1000000000000000 := by have := hw.2.1; omega
  have hD : I64 g.Done := hw.1
  unfold I64 at hD
  refine fn_of_run (by kernel_rfl) Try.func42 rfl (by kernel_rfl) ?_
  refine r_seq ?_
  refine r_region ?_
  (repeat' first | (refine goS_ ?_; ((repeat' first | exact True.intro | refine Two.mk ?_ ?_); all_goals intros)) | fail "")
  refine thenQ_n ?_
  refine r_cut (fun ok : Bool => ⟨[(1, .ptr 0 0 0 0), (2, .lit (.int .i64 0)), (3, .lit (.bool ok))], [(0, some (.box 31 (encGather g)))], 1, Try.f42.ntmps⟩) (fun ok => (ok = true → gHead g) ∧ (ok = false → gatherFlt g = 9)) ?_ ?_
  · (repeat' first | (refine go_ ?_; ((repeat' first | exact True.intro | refine Two.mk ?_ ?_); all_goals intros)) | fail "")
    all_goals first
      | exact ⟨true, ⟨fun _ => (by unfold gHead; omega), fun h => absurd h (by decide)⟩, less_to⟩
      | exact ⟨false, ⟨fun h => absurd h (by decide), fun _ => flt_head (by unfold gHead; omega)⟩, less_to⟩
  rintro ok ⟨hok1, hok2⟩
  (repeat' first | (refine go_ ?_; ((repeat' first | exact True.intro | refine Two.mk ?_ ?_); all_goals intros)) | fail "")
  refine r_for (fun x : Nat × Bool × Int => ⟨[(1, .ptr 0 0 0 0), (2, .lit (.int .i64 0)), (3, .lit (.bool x.2.1)), (4, .lit (.int .i64 x.2.2)), (36, .ro (g.Held.map encPiece)), (37, .lit (.int .i64 g.Held.length)), (38, .lit (.int .i64 x.1))], [(0, some (.box 31 (encGather g)))], 1, Try.f42.ntmps⟩)
      (gInv g) (fun x => g.Held.length - x.1) (0, ok, g.Done) ⟨Nat.zero_le _, hok2, fun h => ⟨hok1 h, rfl⟩⟩ less_to ?_
  rintro ⟨k, ok, a⟩ ⟨hk, hf, ht⟩
  dsimp only at hk hf ht ⊢
  by_cases hkn : k < g.Held.length
  · have hE : gEnd (decide (k = 0)) a (g.Held.drop k) = if 0 < (g.Held.getD k default).Data.length ∧ a ≤ (g.Held.getD k default).Off ∧ (g.Held.getD k default).Off + (g.Held.getD k default).Data.length ≤ 4611686018427387903 ∧ (k = 0 ∨ a < (g.Held.getD k default).Off) then gEnd false ((g.Held.getD k default).Off + (g.Held.getD k default).Data.length) (g.Held.drop (k + 1)) else none := by
      rw [drop_cons hkn]; simp only [gEnd, decide_eq_true_eq]
    obtain ⟨hp1, hp2⟩ := hw.2.2.1 _ (getD_mem hkn)
    unfold I64 at hp1
    cases ok
    · have hf := hf rfl
      (repeat' first | (refine go_ ?_; ((repeat' first | exact True.intro | refine Two.mk ?_ ?_); all_goals intros)) | fail "")
      all_goals exact ends_ (hr := by rw [hf])
    · obtain ⟨hh, ht⟩ := ht rfl
      rw [hE] at ht
      have hg := hh
      unfold gHead at hg
      (repeat' first | (refine go_ ?_; ((repeat' first | exact True.intro | refine Two.mk ?_ ?_); all_goals intros)) | fail "")
      all_goals first
        | (refine ends_ (hr := ?_); rw [flt_tail (by rw [← ht, if_neg (by omega)]; rfl)])
        | (refine ⟨(k + 1, true, (g.Held.getD k default).Off + (g.Held.getD k default).Data.length), ?_, ?_, ?_⟩
           · dsimp only; omega
           · refine ⟨(by dsimp only; omega), (fun h => by cases h), fun _ => ⟨hh, ?_⟩⟩
             rw [if_pos (by omega)] at ht; exact ht
           · exact less_to)
  · have hkl : k = g.Held.length := by omega
    cases ok
    · have hf := hf rfl
      (repeat' first | (refine go_ ?_; ((repeat' first | exact True.intro | refine Two.mk ?_ ?_); all_goals intros)) | fail "")
      all_goals exact ends_ (hr := by rw [hf])
    · obtain ⟨hh, ht⟩ := ht rfl
      have hg := hh
      unfold gHead at hg
      rw [hkl, List.drop_length] at ht
      (repeat' first | (refine go_ ?_; ((repeat' first | exact True.intro | refine Two.mk ?_ ?_); all_goals intros)) | fail "")
      all_goals first
        | (refine ends_ (hr := ?_); rw [flt_tail (by rw [← ht]; simp [gEnd, gTail]; omega)])
        | (refine ends_ (hr := ?_); rw [flt_ok hh (by rw [← ht]; simp [gEnd, gTail]; omega)])
        | fail "left"
end Go.Proofs.Ytfdomanbdfekhaa
