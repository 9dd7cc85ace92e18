/-
  conn.Open and the reference's ConnOpened: what each answers.
-/
import Derived.Test.YtfdomanbdfekhaaGA
import Derived.Test.YtfdomanbdfekhaaGL
import Derived.Test.YtfdomanbdfekhaaCnFr
set_option linter.unusedVariables false
set_option linter.unusedSimpArgs false
set_option linter.unusedVariables false
namespace Go.Proofs.Ytfdomanbdfekhaa
set_option maxRecDepth 100000
attribute [local irreducible] Run RunL QStep GStep Fn Less PL FnM

/-- a lane that was just opened -/
def lnNew (id : Int) : DLane := ⟨id, ⟨0, [], -1, 300⟩, [], false, false, ⟨[], false, 0, 300, [], [], false, false⟩⟩
def cnOpened (c : DConn) : DConn := { c with Lanes := c.Lanes ++ [lnNew c.Opened], Opened := c.Opened + 1 }
/-- P18.4 -/
noncomputable def cnOpenR (c : DConn) : DConn × Int × Int :=
  if cnFlt c = 0 then (if c.Closed = true then (default, 0, 17) else if c.Client = false then (default, 0, 2) else if c.Opened ≥ c.Ids ∨ c.Lanes.length = 4 then (default, 0, 8) else (cnOpened c, c.Opened, 0)) else (default, 0, 9)
def encCnIE (r : DConn × Int × Int) : V := .tup [.agg (encConn r.1), .lit (.int .i64 r.2.1), .lit (.int .i64 r.2.2)]

/-- its cells as they are built -/
def lnRaw (id : Int) : List V := [.lit (.int .i64 id), .lit (.int .i64 0), .lit (.slice none 0 0), .lit (.int .i64 (-1)), .lit (.int .i64 300), .lit (.slice none 0 0), .lit (.bool false), .lit (.bool false), .lit (.slice none 0 0), .lit (.bool false), .lit (.int .i64 0), .lit (.int .i64 300), .lit (.slice none 0 0), .lit (.slice none 0 0), .lit (.bool false), .lit (.bool false)]
/-- the place of a lane; where there is none, their number -/
def lnIx : List DLane → Int → Nat
  | [], _ => 0
  | l :: r, id => if l.Id = id then 0 else lnIx r id + 1
def lnP (l : List DLane) (id : Int) : V := if lnIx l id < l.length then .ptr 1 (lnIx l id) 16 0 else .lit (.pointer none)
end Go.Proofs.Ytfdomanbdfekhaa
