/-
  gather.Put: what is known of its answer. Plain.
-/
import Derived.Test.YtendheafcbickaaGA
import Derived.Test.YtendheafcbickaaPutM
set_option linter.unusedVariables false
set_option linter.unusedSimpArgs false
set_option linter.unusedVariables false
namespace Go.Proofs.Ytendheafcbickaa
set_option maxRecDepth 100000

theorem szP_mem : ∀ {l : List DPiece} {p : DPiece}, p ∈ l → p.Data.length ≤ szP l
  | [], p, h => by cases h
  | q :: l, p, h => by
    unfold szP
    rcases List.mem_cons.1 h with rfl | h
    · omega
    · have := szP_mem h; omega
theorem mgAdd_sz (x : Option (List DPiece × DPiece)) (p : DPiece) : szP (mgOut (mgAdd x p)) = szP (mgOut x) + p.Data.length := by
  cases x with
  | none => simp [mgAdd, mgOut, szP]
  | some y =>
    obtain ⟨L, q⟩ := y
    unfold mgAdd
    dsimp only
    split
    · simp only [mgOut, szP_app, szP, List.length_append]; omega
    · simp only [mgOut, szP_app, szP]; omega
theorem mgAll_sz : ∀ (l : List DPiece) (x : Option (List DPiece × DPiece)), szP (mgOut (mgAll x l)) = szP (mgOut x) + szP l
  | [], x => by simp [mgAll, szP]
  | p :: l, x => by
    show szP (mgOut (mgAll (mgAdd x p) l)) = szP (mgOut x) + (p.Data.length + szP l)
    rw [mgAll_sz l, mgAdd_sz]; omega
theorem mgL_sz (l : List DPiece) : szP (mgL l) = szP l := by
  unfold mgL; rw [mgAll_sz]; simp [mgOut, szP]
theorem mgAdd_ok {x : Option (List DPiece × DPiece)} {p : DPiece} (hx : ∀ q ∈ mgOut x, okP3 q) (hp : okP3 p) : ∀ q ∈ mgOut (mgAdd x p), okP3 q := by
  cases x with
  | none => intro q hq; simp [mgAdd, mgOut] at hq; subst hq; exact hp
  | some y =>
    obtain ⟨L, q⟩ := y
    have hq := hx q (by simp [mgOut])
    unfold mgAdd
    dsimp only
    split
    · rename_i h
      intro z hz
      simp only [mgOut, List.mem_append, List.mem_singleton] at hz
      rcases hz with hz | rfl
      · exact hx z (by simp [mgOut, hz])
      · unfold okP3 at *; dsimp only; rw [List.length_append]; omega
    · intro z hz
      simp only [mgOut, List.mem_append, List.mem_singleton] at hz
      rcases hz with (hz | rfl) | rfl
      · exact hx z (by simp [mgOut, hz])
      · exact hq
      · exact hp
theorem mgAll_ok : ∀ {l : List DPiece} {x : Option (List DPiece × DPiece)}, (∀ q ∈ mgOut x, okP3 q) → (∀ p ∈ l, okP3 p) → ∀ q ∈ mgOut (mgAll x l), okP3 q
  | [], _, hx, _ => hx
  | p :: l, x, hx, hl => mgAll_ok (l := l) (mgAdd_ok hx (hl p List.mem_cons_self)) (fun q hq => hl q (List.mem_cons_of_mem _ hq))
theorem mgL_ok {l : List DPiece} (hl : ∀ p ∈ l, okP3 p) : ∀ q ∈ mgL l, okP3 q := mgAll_ok (x := none) (by simp [mgOut]) hl
theorem ptAll_ok {off : Int} {data : List UInt8} (h00 : 0 ≤ off) (hd : data.length ≤ 1048576) (hm : off + data.length ≤ 4611686018427387903) : ∀ (l : List DPiece) {n : Nat} {x : Int × Bool × List DPiece}, ptOk off n x → (∀ p ∈ l, okP3 p ∧ p.Data.length ≤ 16777216) → ptOk off (n + l.length) (ptAll off (off + data.length) data x l)
  | [], n, x, hx, _ => hx
  | p :: l, n, x, hx, hl => by
    have h1 := hl p List.mem_cons_self
    have h2 := ptOne_ok h00 hd hm hx h1.1 h1.2
    have h3 := ptAll_ok h00 hd hm l h2 (fun q hq => hl q (List.mem_cons_of_mem _ hq))
    unfold ptAll
    rw [List.length_cons, show n + (l.length + 1) = n + 1 + l.length by omega]
    exact h3
/-- what is put together: 2 n + 1 pieces at most, as long together as may be -/
theorem ptL_ok (g : DGather) (off : Int) (data : List UInt8) (h0 : gatherFlt g = 0) (h00 : 0 ≤ off) (hd : data.length ≤ 1048576) (hm : off + data.length ≤ 4611686018427387903) (hs : ∀ p ∈ g.Held, p.Data.length ≤ 16777216) :
    (ptL g off data).length ≤ 9 ∧ szP (ptL g off data) ≤ 135266304 ∧ ∀ p ∈ ptL g off data, okP3 p := by
  obtain ⟨hh, hmm⟩ := flt_mem h0
  unfold gHead at hh
  have h1 := ptAll_ok h00 hd hm g.Held (n := 0) (x := (max off g.Done, false, [])) ⟨by dsimp only; omega, by dsimp only; omega, by simp, by simp [szP], fun p hp => by cases hp⟩ (fun p hp => ⟨by have := hmm p hp; unfold okP3; omega, hs p hp⟩)
  rw [Nat.zero_add] at h1
  unfold ptL ptEnd
  generalize ptAll off (off + data.length) data (max off g.Done, false, []) g.Held = X at *
  obtain ⟨x1, x2, x3, x4, x5⟩ := h1
  obtain ⟨y1, y2, y3⟩ := pcAdd_ok h00 x1 (Int.le_refl (off + (data.length : Int))) hd hm x5
  exact ⟨by omega, by omega, y3⟩
theorem putR_wf (g : DGather) (off : Int) (data : List UInt8) (fin : Bool) (hw : wfGather g) (ho : I64 off) (hd : data.length ≤ 1048576) (hs : ∀ p ∈ g.Held, p.Data.length ≤ 16777216) : wfGather (putR g off data fin).1 := by
  have hz : wfGather ⟨0, [], 0, 0⟩ := by unfold wfGather I64; simp
  unfold putR
  split
  · exact hz
  · rename_i h0
    split
    · exact hz
    · rename_i h1
      split
      · exact hz
      · split
        · exact hz
        · split
          · exact hz
          · rename_i h4
            obtain ⟨p1, p2, p3⟩ := ptL_ok g off data (by omega) (by omega) hd (by omega) hs
            have q1 := mgL_ok p3
            have q2 := mgL_sz (ptL g off data)
            generalize mgL (ptL g off data) = M at *
            refine ⟨hw.1, by dsimp only; omega, fun y hy => ?_, ?_, hw.2.2.2.2⟩
            · have hy : y ∈ M := hy
              have z1 := q1 y hy
              have z2 := szP_mem hy
              unfold okP3 at z1
              unfold wfPiece I64
              omega
            · have := hw.2.2.2.1
              dsimp only
              split
              · unfold I64; omega
              · exact this
end Go.Proofs.Ytendheafcbickaa
