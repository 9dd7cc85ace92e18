/-
  What conn.Tick does with what was lost: plain facts.
-/
import Derived.Test.YtfdomanbdfekhaaGreatGA
import Derived.Test.YtfdomanbdfekhaaGreatGM
import Derived.Test.YtfdomanbdfekhaaGreatGD
import Derived.Test.YtfdomanbdfekhaaGreatSndLo
import Derived.Test.YtfdomanbdfekhaaGreatOverdue
import Derived.Test.YtfdomanbdfekhaaGreatCnW
set_option linter.unusedVariables false
set_option linter.unusedSimpArgs false
set_option linter.unusedVariables false
namespace Go.Proofs.YtfdomanbdfekhaaGreat
set_option maxRecDepth 100000

def clsF (e : Int) : DFrame := ⟨28, 0, 0, false, e, [], []⟩
/-- a connection is closed, and tells why -/
def cnShut (c : DConn) (e : Int) : DConn := { c with Closed := true, Code := e, Queue := [clsF e], Lanes := [], Owes := false }
def hasQ (q : List DFrame) (f : DFrame) : Prop := ∃ i, i < q.length ∧ (q.getD i default).Kind = f.Kind ∧ (q.getD i default).Id = f.Id
def lnOf (c : DConn) (id : Int) : DLane := c.Lanes.getD (lnIx c.Lanes id) default
def wOff (f : DFrame) (n : Int) : DFrame := ⟨f.Kind, f.Id, n, f.Fin, f.Code, f.Ranges, f.Data⟩
/-- a frame that is told once more, as it is now -/
def agF (c : DConn) (f : DFrame) : DFrame := if f.Kind = 16 then wOff f c.Flow.Max else if f.Kind = 18 then wOff f c.Grant else if f.Kind = 17 then wOff f (lnOf c f.Id).In.Window else f
noncomputable def againR (c : DConn) (f : DFrame) : List DFrame × Int :=
  if yes (hasQ c.Queue f) = true then (c.Queue, 0)
  else if f.Kind = 17 ∧ (lnIx c.Lanes f.Id = c.Lanes.length ∨ (lnOf c f.Id).Over = true) then (c.Queue, 0)
  else qTell c.Queue (agF c f)
def kAg (k : Int) : Prop := k = 4 ∨ k = 16 ∨ k = 17 ∨ k = 18 ∨ k = 6 ∨ k = 7 ∨ k = 30
instance (k : Int) : Decidable (kAg k) := inferInstanceAs (Decidable (_ ∨ _))
/-- a frame was lost: the lanes and what is to be told then, and the fault -/
noncomputable def lossR (c : DConn) (f : DFrame) : List DLane × List DFrame × Int :=
  if f.Kind = 8 then
    (if lnIx c.Lanes f.Id < c.Lanes.length then
      (if (lostR (lnOf c f.Id).Out f.Off f.Data.length f.Fin).2 = 0 then (c.Lanes.set (lnIx c.Lanes f.Id) { lnOf c f.Id with Out := (lostR (lnOf c f.Id).Out f.Off f.Data.length f.Fin).1 }, c.Queue, 0) else (c.Lanes, c.Queue, (lostR (lnOf c f.Id).Out f.Off f.Data.length f.Fin).2))
     else (c.Lanes, c.Queue, 0))
  else if kAg f.Kind then (c.Lanes, (againR c f).1, (againR c f).2)
  else (c.Lanes, c.Queue, 0)
def cnLQ (c : DConn) (l : List DLane) (q : List DFrame) : DConn := { c with Lanes := l, Queue := q }
def cnP (c : DConn) (p : DPace) : DConn := { c with Pace := p }
noncomputable def lossAll (c : DConn) : List DFrame → DConn × Int
  | [] => (c, 0)
  | f :: l => if (lossR c f).2.2 = 0 then lossAll (cnLQ c (lossR c f).1 (lossR c f).2.1) l else (c, (lossR c f).2.2)
def pcLs (c : DConn) (p : DParcel) (now : Int) : DPace := (paceLostV c.Pace (min p.Size c.Pace.Flying) p.Time now).1
noncomputable def lostAll (now : Int) (c : DConn) : List DParcel → DConn × Int
  | [] => (c, 0)
  | p :: l => if (lossAll (cnP c (pcLs c p now)) p.Frames).2 = 0 then lostAll now (lossAll (cnP c (pcLs c p now)) p.Frames).1 l else lossAll (cnP c (pcLs c p now)) p.Frames
def cnSp (c : DConn) (s : DSpace) : DConn := { c with Space := s }
/-- P18.9 -/
noncomputable def tickR (c : DConn) (now : Int) : DConn × Int :=
  if cnFlt c = 0 then (if 0 ≤ now ∧ now ≤ 1099511627776 then (if c.Closed = true then (c, 0)
    else if 60 ≤ now - c.Last then (cnQ (cnShut c 16) [], 0)
    else if (lostAll now (cnSp c (spOver c.Space now 8).1) (spOver c.Space now 8).2.1).2 = 0 then ((lostAll now (cnSp c (spOver c.Space now 8).1) (spOver c.Space now 8).2.1).1, 0)
    else (cnShut (lostAll now (cnSp c (spOver c.Space now 8).1) (spOver c.Space now 8).2.1).1 (lostAll now (cnSp c (spOver c.Space now 8).1) (spOver c.Space now 8).2.1).2, 0)) else (default, 6)) else (default, 9)
theorem rSet_few : ∀ {l : List DRange} {a m : Int}, rSet a l → (∀ x ∈ l, x.Hi < m) → a < m → 2 * (l.length : Int) ≤ m - a
  | [], a, m, _, _, ha => by simp; omega
  | r :: l, a, m, h, hm, ha => by
    have h1 := hm r List.mem_cons_self
    have hg := h.1
    unfold rGood at hg
    have := rSet_few (a := r.Hi) h.2.2 (fun x hx => hm x (List.mem_cons_of_mem _ hx)) h1
    have h2 := h.2.1
    rw [List.length_cons]; omega
/-- what is kept of the lanes -/
def okLs (l : List DLane) : Prop := ∀ y ∈ l, U.wfLane y
theorem lostR_U {s : DSender} {off n : Int} {fin : Bool} (hw : U.wfSender s) (h0 : (lostR s off n fin).2 = 0) : U.wfSender (lostR s off n fin).1 := by
  unfold lostR at *
  by_cases hp0 : partFlt s off n fin = 0
  · obtain ⟨hok, hp⟩ := part_ok hp0
    obtain ⟨q1, q2, q3, q4⟩ := snd_facts hok hp
    rw [if_neg (by omega)]
    obtain ⟨w1, w2, w3, w4, w5, w6, w7⟩ := hw
    unfold lostS
    refine ⟨w1, w2, w3, ?_, ?_, w6, w7⟩
    · dsimp only
      by_cases hn0 : 0 < n
      · rw [if_pos hn0]
        obtain ⟨g1, g2⟩ := hol_set q2 (q4 hn0) s.Acked.length (Nat.le_refl _)
        obtain ⟨_, _, h3⟩ := foldAdd (hol s.Acked ⟨off, off + n - 1⟩ s.Acked.length) q1 (fun x hx => (rSet_good g1 x hx).1)
        have hh := hok.1.1.1
        unfold sndHead at hh
        have f1 := rSet_few q1 ((lastLow_iff q1).1 hok.1.1.2) (by omega)
        have f2 := rSet_few q2 ((lastLow_iff q2).1 hok.1.2) (by omega)
        omega
      · rw [if_neg hn0]; exact w4
    · dsimp only
      by_cases hn0 : 0 < n
      · rw [if_pos hn0]
        obtain ⟨g1, g2⟩ := hol_set q2 (q4 hn0) s.Acked.length (Nat.le_refl _)
        obtain ⟨h1, _, h3⟩ := foldAdd (hol s.Acked ⟨off, off + n - 1⟩ s.Acked.length) q1 (fun x hx => (rSet_good g1 x hx).1)
        intro y hy
        have hg := (rSet_good h1 y hy).1
        unfold rGood at hg
        unfold U.wfRange I64; omega
      · rw [if_neg hn0]; exact w5
  · rw [if_pos hp0] at h0
    exact absurd h0 hp0
end Go.Proofs.YtfdomanbdfekhaaGreat
