/-
  sender.Heard and sender.Lose, and the reference's: what they answer.
-/
import Derived.Test.YtfdomanbdfekhaaGreatGA
import Derived.Test.YtfdomanbdfekhaaGreatSndH
import Derived.Test.YtfdomanbdfekhaaGreatRgsHolP
import Derived.Test.YtfdomanbdfekhaaGreatRgsAddF
import Derived.Test.YtfdomanbdfekhaaGreatJoined
import Derived.Test.YtfdomanbdfekhaaGreatGE
set_option linter.unusedVariables false
set_option linter.unusedSimpArgs false
set_option linter.unusedVariables false
namespace Go.Proofs.YtfdomanbdfekhaaGreat
set_option maxRecDepth 100000
attribute [local irreducible] Run RunL QStep GStep Fn Less PL FnM

/-- P10.5 -/
def heardS (s : DSender) (off n : Int) (fin : Bool) : DSender :=
  { s with Lost := if 0 < n then rCut s.Lost ⟨off, off + n - 1⟩ else s.Lost, Acked := if 0 < n then rAdd s.Acked ⟨off, off + n - 1⟩ else s.Acked, Ended := s.Ended && !fin, Over := s.Over || fin }
noncomputable def heardR (s : DSender) (off n : Int) (fin : Bool) : DSender × Int := if partFlt s off n fin ≠ 0 then (sndZ, partFlt s off n fin) else (heardS s off n fin, 0)
/-- P10.6 -/
def lostS (s : DSender) (off n : Int) (fin : Bool) : DSender :=
  { s with Lost := if 0 < n then (hol s.Acked ⟨off, off + n - 1⟩ s.Acked.length).foldl rAdd s.Lost else s.Lost, Ended := s.Ended && !fin }
noncomputable def lostR (s : DSender) (off n : Int) (fin : Bool) : DSender × Int := if partFlt s off n fin ≠ 0 then (sndZ, partFlt s off n fin) else (lostS s off n fin, 0)
def encSE (r : DSender × Int) : V := .tup [.agg (encSender r.1), .lit (.int .i64 r.2)]
theorem rAddR_ok {l : List DRange} {r : DRange} (hs : rSet (-2) l) (hr : rGood r) : rAddR l r = (rAdd l r, 0) := by
  have h : rgFlt l r = 0 := by unfold rgFlt rFlt; rw [if_pos hs, if_neg (by omega), if_pos hr]
  unfold rAddR; rw [h, if_neg (by omega)]
theorem rHoles_ok {l : List DRange} {r : DRange} (hs : rSet (-2) l) (hr : rGood r) : rHoles l r = (hol l r l.length, 0) := by
  have h : rgFlt l r = 0 := by unfold rgFlt rFlt; rw [if_pos hs, if_neg (by omega), if_pos hr]
  unfold rHoles; rw [h, if_neg (by omega)]
theorem foldAdd : ∀ (H : List DRange) {L : List DRange}, rSet (-2) L → (∀ x ∈ H, rGood x) → rSet (-2) (H.foldl rAdd L) ∧ (∀ n, inL (H.foldl rAdd L) n ↔ inL (L ++ H) n) ∧ (H.foldl rAdd L).length ≤ L.length + H.length
  | [], L, hL, _ => ⟨hL, fun n => by rw [List.append_nil]; rfl, by simp⟩
  | x :: H, L, hL, hH => by
    have hx := hH x (List.mem_cons_self ..)
    have hx' := hx
    unfold rGood at hx'
    obtain ⟨h1, h2, h3⟩ := foldAdd H (rAdd_set hL hx (by omega)) (fun y hy => hH y (List.mem_cons_of_mem _ hy))
    have h4 := rAdd_len L x
    rw [List.foldl_cons]
    refine ⟨h1, fun n => ?_, by rw [List.length_cons]; omega⟩
    rw [h2, inL_app, rAdd_in hx'.2.1 (fun y hy => by have := (rSet_good hL y hy).1; unfold rGood at this; exact this.2.1), inL_app, inL_cons, or_assoc]
theorem fold_snoc {H L : List DRange} {k : Nat} (h : k < H.length) : (H.take (k + 1)).foldl rAdd L = rAdd ((H.take k).foldl rAdd L) (H.getD k default) := by
  rw [take_snoc h, List.foldl_append]; rfl
theorem snd_facts {s : DSender} (h : sndOk s) {off n : Int} {fin : Bool} (hp : partOk s off n fin) : rSet (-2) s.Lost ∧ rSet (-2) s.Acked ∧ (0 ≤ off ∧ 0 ≤ n ∧ off + n ≤ 600) ∧ (0 < n → rGood ⟨off, off + n - 1⟩) := by
  have hh := (sndHead_iff s).1 h.1.1.1
  obtain ⟨⟨f1, f2, f3, f4, f5, f6, f7⟩, _, _⟩ := hh
  obtain ⟨⟨p1, p2, p3, p4⟩, _⟩ := hp
  exact ⟨rFlt_set f6, rFlt_set f7, by omega, fun hn => by unfold rGood; dsimp only; omega⟩
end Go.Proofs.YtfdomanbdfekhaaGreat
