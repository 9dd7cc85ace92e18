/-
  SEVERAL TEXTS IN ONE: each with its own comment.
-/
import Derived.Test.YtendheafcbickaaAbsB
import Derived.Test.YtendheafcbickaaRows
import Derived.WalkKit
import Derived.ProofKit
import Derived.WalkSpells
import Derived.WalkLawsBesides
import Derived.OpenShut
import Derived.ShutString
import Derived.ChangeOld
import Derived.Below
import Derived.SizedLaws
import Derived.Deep.Slices
import Derived.Deep.CondSized
/-
  THE STRUCTS OF PACKAGE api AS PLAIN DATA, and their cells as abstract values. Written by a program (mkenc.py).
-/
set_option linter.unusedSimpArgs false
set_option linter.unusedVariables false
namespace Go.Proofs.Ytendheafcbickaa
open Go.RowKit

/-- within an int64, a uint64 -/
def I64 (x : Int) : Prop := -9223372036854775808 ≤ x ∧ x ≤ 9223372036854775807
def U64 (x : Int) : Prop := 0 ≤ x ∧ x ≤ 18446744073709551615
def encI (n : Int) : List V := [.lit (.int .i64 n)]
def encS (l : List UInt8) : List V := [.ro (l.map encB)]

structure DRange where
  Lo : Int
  Hi : Int
instance : Inhabited DRange := ⟨⟨0, 0⟩⟩
def encRange (x : DRange) : List V := [.lit (.int .i64 x.Lo), .lit (.int .i64 x.Hi)]
def wfRange (x : DRange) : Prop := I64 x.Lo ∧ I64 x.Hi

structure DFlow where
  Max : Int
  Used : Int
instance : Inhabited DFlow := ⟨⟨0, 0⟩⟩
def encFlow (x : DFlow) : List V := [.lit (.int .i64 x.Max), .lit (.int .i64 x.Used)]
def wfFlow (x : DFlow) : Prop := I64 x.Max ∧ I64 x.Used

structure DPace where
  Window : Int
  Thresh : Int
  Flying : Int
  Since : Int
instance : Inhabited DPace := ⟨⟨0, 0, 0, 0⟩⟩
def encPace (x : DPace) : List V := [.lit (.int .i64 x.Window), .lit (.int .i64 x.Thresh), .lit (.int .i64 x.Flying), .lit (.int .i64 x.Since)]
def wfPace (x : DPace) : Prop := I64 x.Window ∧ I64 x.Thresh ∧ I64 x.Flying ∧ I64 x.Since

structure DTally where
  Known : Bool
  Got : Int
  Sent : Int
instance : Inhabited DTally := ⟨⟨false, 0, 0⟩⟩
def encTally (x : DTally) : List V := [.lit (.bool x.Known), .lit (.int .i64 x.Got), .lit (.int .i64 x.Sent)]
def wfTally (x : DTally) : Prop := I64 x.Got ∧ I64 x.Sent

structure DField where
  Name : List UInt8
  Value : List UInt8
instance : Inhabited DField := ⟨⟨[], []⟩⟩
def encField (x : DField) : List V := [.lit (.string (strB x.Name)), .lit (.string (strB x.Value))]
def wfField (x : DField) : Prop := x.Name.length ≤ 140737488351232 ∧ x.Value.length ≤ 140737488351232

structure DPiece where
  Off : Int
  Data : List UInt8
instance : Inhabited DPiece := ⟨⟨0, []⟩⟩
theorem ext_Piece {a b : DPiece} (h0 : a.Off = b.Off) (h1 : a.Data = b.Data) : a = b := by
  cases a; cases b; dsimp only at *; subst_vars; rfl
def encPiece (x : DPiece) : List V := [.lit (.int .i64 x.Off), .ro (x.Data.map encB)]
def wfPiece (x : DPiece) : Prop := I64 x.Off ∧ x.Data.length * 1 ≤ 140737488351232

structure DGather where
  Done : Int
  Held : List DPiece
  Final : Int
  Window : Int
instance : Inhabited DGather := ⟨⟨0, [], 0, 0⟩⟩
def encGather (x : DGather) : List V := [.lit (.int .i64 x.Done), .ro (x.Held.map encPiece), .lit (.int .i64 x.Final), .lit (.int .i64 x.Window)]
def wfGather (x : DGather) : Prop := I64 x.Done ∧ x.Held.length * 32 ≤ 140737488351232 ∧ (∀ y, y ∈ x.Held → wfPiece y) ∧ I64 x.Final ∧ I64 x.Window

structure DSender where
  Data : List UInt8
  Fin : Bool
  Next : Int
  Max : Int
  Lost : List DRange
  Acked : List DRange
  Ended : Bool
  Over : Bool
instance : Inhabited DSender := ⟨⟨[], false, 0, 0, [], [], false, false⟩⟩
def encSender (x : DSender) : List V := [.ro (x.Data.map encB), .lit (.bool x.Fin), .lit (.int .i64 x.Next), .lit (.int .i64 x.Max), .ro (x.Lost.map encRange), .ro (x.Acked.map encRange), .lit (.bool x.Ended), .lit (.bool x.Over)]
def wfSender (x : DSender) : Prop := x.Data.length * 1 ≤ 140737488351232 ∧ I64 x.Next ∧ I64 x.Max ∧ x.Lost.length * 16 ≤ 140737488351232 ∧ (∀ y, y ∈ x.Lost → wfRange y) ∧ x.Acked.length * 16 ≤ 140737488351232 ∧ (∀ y, y ∈ x.Acked → wfRange y)

structure DFrame where
  Kind : Int
  Id : Int
  Off : Int
  Fin : Bool
  Code : Int
  Ranges : List DRange
  Data : List UInt8
instance : Inhabited DFrame := ⟨⟨0, 0, 0, false, 0, [], []⟩⟩
def encFrame (x : DFrame) : List V := [.lit (.int .i64 x.Kind), .lit (.int .i64 x.Id), .lit (.int .i64 x.Off), .lit (.bool x.Fin), .lit (.int .i64 x.Code), .ro (x.Ranges.map encRange), .ro (x.Data.map encB)]
def wfFrame (x : DFrame) : Prop := I64 x.Kind ∧ I64 x.Id ∧ I64 x.Off ∧ I64 x.Code ∧ x.Ranges.length * 16 ≤ 140737488351232 ∧ (∀ y, y ∈ x.Ranges → wfRange y) ∧ x.Data.length * 1 ≤ 140737488351232

structure DHead where
  Kind : Int
  To : Int
  From : Int
  Token : List UInt8
  Number : Int
  Size : Int
instance : Inhabited DHead := ⟨⟨0, 0, 0, [], 0, 0⟩⟩
def encHead (x : DHead) : List V := [.lit (.int .i64 x.Kind), .lit (.int .i64 x.To), .lit (.int .i64 x.From), .ro (x.Token.map encB), .lit (.int .i64 x.Number), .lit (.int .i64 x.Size)]
def wfHead (x : DHead) : Prop := I64 x.Kind ∧ I64 x.To ∧ I64 x.From ∧ x.Token.length * 1 ≤ 140737488351232 ∧ I64 x.Number ∧ I64 x.Size

structure DParcel where
  Number : Int
  Time : Int
  Size : Int
  Frames : List DFrame
instance : Inhabited DParcel := ⟨⟨0, 0, 0, []⟩⟩
def encParcel (x : DParcel) : List V := [.lit (.int .i64 x.Number), .lit (.int .i64 x.Time), .lit (.int .i64 x.Size), .ro (x.Frames.map encFrame)]
def wfParcel (x : DParcel) : Prop := I64 x.Number ∧ I64 x.Time ∧ I64 x.Size ∧ x.Frames.length * 88 ≤ 140737488351232 ∧ (∀ y, y ∈ x.Frames → wfFrame y)

structure DSpace where
  Next : Int
  Sent : List DParcel
  Top : Int
  Heard : List DRange
  Skip : List Int
instance : Inhabited DSpace := ⟨⟨0, [], 0, [], []⟩⟩
def encSpace (x : DSpace) : List V := [.lit (.int .i64 x.Next), .ro (x.Sent.map encParcel), .lit (.int .i64 x.Top), .ro (x.Heard.map encRange), .ro (x.Skip.map encI)]
def wfSpace (x : DSpace) : Prop := I64 x.Next ∧ x.Sent.length * 48 ≤ 140737488351232 ∧ (∀ y, y ∈ x.Sent → wfParcel y) ∧ I64 x.Top ∧ x.Heard.length * 16 ≤ 140737488351232 ∧ (∀ y, y ∈ x.Heard → wfRange y) ∧ x.Skip.length * 8 ≤ 140737488351232 ∧ (∀ y, y ∈ x.Skip → I64 y)

structure DTable where
  Room : Int
  Put : Int
  Rows : List DField
instance : Inhabited DTable := ⟨⟨0, 0, []⟩⟩
def encTable (x : DTable) : List V := [.lit (.int .i64 x.Room), .lit (.int .i64 x.Put), .ro (x.Rows.map encField)]
def wfTable (x : DTable) : Prop := I64 x.Room ∧ I64 x.Put ∧ x.Rows.length * 32 ≤ 140737488351232 ∧ (∀ y, y ∈ x.Rows → wfField y)

structure DRequest where
  Fields : List DField
  Body : List UInt8
instance : Inhabited DRequest := ⟨⟨[], []⟩⟩
def encRequest (x : DRequest) : List V := [.ro (x.Fields.map encField), .ro (x.Body.map encB)]
def wfRequest (x : DRequest) : Prop := x.Fields.length * 32 ≤ 140737488351232 ∧ (∀ y, y ∈ x.Fields → wfField y) ∧ x.Body.length * 1 ≤ 140737488351232

structure DReader where
  Held : List UInt8
  Fields : List DField
  Begun : Bool
  Body : List UInt8
  Ended : Bool
instance : Inhabited DReader := ⟨⟨[], [], false, [], false⟩⟩
def encReader (x : DReader) : List V := [.ro (x.Held.map encB), .ro (x.Fields.map encField), .lit (.bool x.Begun), .ro (x.Body.map encB), .lit (.bool x.Ended)]
def wfReader (x : DReader) : Prop := x.Held.length * 1 ≤ 140737488351232 ∧ x.Fields.length * 32 ≤ 140737488351232 ∧ (∀ y, y ∈ x.Fields → wfField y) ∧ x.Body.length * 1 ≤ 140737488351232

structure DLane where
  Id : Int
  In : DGather
  Read : List UInt8
  Over : Bool
  Cut : Bool
  Out : DSender
instance : Inhabited DLane := ⟨⟨0, default, [], false, false, default⟩⟩
def encLane (x : DLane) : List V := [.lit (.int .i64 x.Id), .lit (.int .i64 x.In.Done), .ro (x.In.Held.map encPiece), .lit (.int .i64 x.In.Final), .lit (.int .i64 x.In.Window), .ro (x.Read.map encB), .lit (.bool x.Over), .lit (.bool x.Cut), .ro (x.Out.Data.map encB), .lit (.bool x.Out.Fin), .lit (.int .i64 x.Out.Next), .lit (.int .i64 x.Out.Max), .ro (x.Out.Lost.map encRange), .ro (x.Out.Acked.map encRange), .lit (.bool x.Out.Ended), .lit (.bool x.Out.Over)]
def wfLane (x : DLane) : Prop := I64 x.Id ∧ wfGather x.In ∧ x.Read.length * 1 ≤ 140737488351232 ∧ wfSender x.Out

structure DConn where
  Client : Bool
  Space : DSpace
  Pace : DPace
  Flow : DFlow
  Credit : DFlow
  Ids : Int
  Grant : Int
  Opened : Int
  Lanes : List DLane
  Owes : Bool
  Queue : List DFrame
  Last : Int
  Resets : Int
  Closed : Bool
  Code : Int
instance : Inhabited DConn := ⟨⟨false, default, default, default, default, 0, 0, 0, [], false, [], 0, 0, false, 0⟩⟩
def encConn (x : DConn) : List V := [.lit (.bool x.Client), .lit (.int .i64 x.Space.Next), .ro (x.Space.Sent.map encParcel), .lit (.int .i64 x.Space.Top), .ro (x.Space.Heard.map encRange), .ro (x.Space.Skip.map encI), .lit (.int .i64 x.Pace.Window), .lit (.int .i64 x.Pace.Thresh), .lit (.int .i64 x.Pace.Flying), .lit (.int .i64 x.Pace.Since), .lit (.int .i64 x.Flow.Max), .lit (.int .i64 x.Flow.Used), .lit (.int .i64 x.Credit.Max), .lit (.int .i64 x.Credit.Used), .lit (.int .i64 x.Ids), .lit (.int .i64 x.Grant), .lit (.int .i64 x.Opened), .ro (x.Lanes.map encLane), .lit (.bool x.Owes), .ro (x.Queue.map encFrame), .lit (.int .i64 x.Last), .lit (.int .i64 x.Resets), .lit (.bool x.Closed), .lit (.int .i64 x.Code)]
def wfConn (x : DConn) : Prop := wfSpace x.Space ∧ wfPace x.Pace ∧ wfFlow x.Flow ∧ wfFlow x.Credit ∧ I64 x.Ids ∧ I64 x.Grant ∧ I64 x.Opened ∧ x.Lanes.length * 192 ≤ 140737488351232 ∧ (∀ y, y ∈ x.Lanes → wfLane y) ∧ x.Queue.length * 88 ≤ 140737488351232 ∧ (∀ y, y ∈ x.Queue → wfFrame y) ∧ I64 x.Last ∧ I64 x.Resets ∧ I64 x.Code

structure DNote where
  Id : Int
  From : Int
  Peer : Int
  Key : Int
  Ready : Bool
  Conn : DConn
instance : Inhabited DNote := ⟨⟨0, 0, 0, 0, false, default⟩⟩
def encNote (x : DNote) : List V := [.lit (.int .i64 x.Id), .lit (.int .i64 x.From), .lit (.int .i64 x.Peer), .lit (.int .u64 x.Key), .lit (.bool x.Ready), .lit (.bool x.Conn.Client), .lit (.int .i64 x.Conn.Space.Next), .ro (x.Conn.Space.Sent.map encParcel), .lit (.int .i64 x.Conn.Space.Top), .ro (x.Conn.Space.Heard.map encRange), .ro (x.Conn.Space.Skip.map encI), .lit (.int .i64 x.Conn.Pace.Window), .lit (.int .i64 x.Conn.Pace.Thresh), .lit (.int .i64 x.Conn.Pace.Flying), .lit (.int .i64 x.Conn.Pace.Since), .lit (.int .i64 x.Conn.Flow.Max), .lit (.int .i64 x.Conn.Flow.Used), .lit (.int .i64 x.Conn.Credit.Max), .lit (.int .i64 x.Conn.Credit.Used), .lit (.int .i64 x.Conn.Ids), .lit (.int .i64 x.Conn.Grant), .lit (.int .i64 x.Conn.Opened), .ro (x.Conn.Lanes.map encLane), .lit (.bool x.Conn.Owes), .ro (x.Conn.Queue.map encFrame), .lit (.int .i64 x.Conn.Last), .lit (.int .i64 x.Conn.Resets), .lit (.bool x.Conn.Closed), .lit (.int .i64 x.Conn.Code)]
def wfNote (x : DNote) : Prop := I64 x.Id ∧ I64 x.From ∧ I64 x.Peer ∧ U64 x.Key ∧ wfConn x.Conn

structure DGate where
  Secret : Int
  Now : Int
  Next : Int
  Notes : List DNote
  Tally0 : DTally
  Tally1 : DTally
  Tally2 : DTally
  Tally3 : DTally
  Retry : Bool
  Shed : Int
instance : Inhabited DGate := ⟨⟨0, 0, 0, [], default, default, default, default, false, 0⟩⟩
def encGate (x : DGate) : List V := [.lit (.int .u64 x.Secret), .lit (.int .i64 x.Now), .lit (.int .i64 x.Next), .ro (x.Notes.map encNote), .lit (.bool x.Tally0.Known), .lit (.int .i64 x.Tally0.Got), .lit (.int .i64 x.Tally0.Sent), .lit (.bool x.Tally1.Known), .lit (.int .i64 x.Tally1.Got), .lit (.int .i64 x.Tally1.Sent), .lit (.bool x.Tally2.Known), .lit (.int .i64 x.Tally2.Got), .lit (.int .i64 x.Tally2.Sent), .lit (.bool x.Tally3.Known), .lit (.int .i64 x.Tally3.Got), .lit (.int .i64 x.Tally3.Sent), .lit (.bool x.Retry), .lit (.int .i64 x.Shed)]
def wfGate (x : DGate) : Prop := U64 x.Secret ∧ I64 x.Now ∧ I64 x.Next ∧ x.Notes.length * 312 ≤ 140737488351232 ∧ (∀ y, y ∈ x.Notes → wfNote y) ∧ wfTally x.Tally0 ∧ wfTally x.Tally1 ∧ wfTally x.Tally2 ∧ wfTally x.Tally3 ∧ I64 x.Shed

structure DMail where
  Peer : Int
  Data : List UInt8
instance : Inhabited DMail := ⟨⟨0, []⟩⟩
def encMail (x : DMail) : List V := [.lit (.int .i64 x.Peer), .ro (x.Data.map encB)]
def wfMail (x : DMail) : Prop := I64 x.Peer ∧ x.Data.length * 1 ≤ 140737488351232

structure DClient where
  Peer : Int
  Id : Int
  Word : Int
  Token : List UInt8
  To : Int
  Key : Int
  Conn : DConn
instance : Inhabited DClient := ⟨⟨0, 0, 0, [], 0, 0, default⟩⟩
def encClient (x : DClient) : List V := [.lit (.int .i64 x.Peer), .lit (.int .i64 x.Id), .lit (.int .u64 x.Word), .ro (x.Token.map encB), .lit (.int .i64 x.To), .lit (.int .u64 x.Key), .lit (.bool x.Conn.Client), .lit (.int .i64 x.Conn.Space.Next), .ro (x.Conn.Space.Sent.map encParcel), .lit (.int .i64 x.Conn.Space.Top), .ro (x.Conn.Space.Heard.map encRange), .ro (x.Conn.Space.Skip.map encI), .lit (.int .i64 x.Conn.Pace.Window), .lit (.int .i64 x.Conn.Pace.Thresh), .lit (.int .i64 x.Conn.Pace.Flying), .lit (.int .i64 x.Conn.Pace.Since), .lit (.int .i64 x.Conn.Flow.Max), .lit (.int .i64 x.Conn.Flow.Used), .lit (.int .i64 x.Conn.Credit.Max), .lit (.int .i64 x.Conn.Credit.Used), .lit (.int .i64 x.Conn.Ids), .lit (.int .i64 x.Conn.Grant), .lit (.int .i64 x.Conn.Opened), .ro (x.Conn.Lanes.map encLane), .lit (.bool x.Conn.Owes), .ro (x.Conn.Queue.map encFrame), .lit (.int .i64 x.Conn.Last), .lit (.int .i64 x.Conn.Resets), .lit (.bool x.Conn.Closed), .lit (.int .i64 x.Conn.Code)]
def wfClient (x : DClient) : Prop := I64 x.Peer ∧ I64 x.Id ∧ U64 x.Word ∧ x.Token.length * 1 ≤ 140737488351232 ∧ I64 x.To ∧ U64 x.Key ∧ wfConn x.Conn

structure DAct where
  Kind : Int
  Peer : Int
  At : Int
  N : Int
  Word : Int
  Data : List UInt8
instance : Inhabited DAct := ⟨⟨0, 0, 0, 0, 0, []⟩⟩
def encAct (x : DAct) : List V := [.lit (.int .i64 x.Kind), .lit (.int .i64 x.Peer), .lit (.int .i64 x.At), .lit (.int .i64 x.N), .lit (.int .u64 x.Word), .ro (x.Data.map encB)]
def wfAct (x : DAct) : Prop := I64 x.Kind ∧ I64 x.Peer ∧ I64 x.At ∧ I64 x.N ∧ U64 x.Word ∧ x.Data.length * 1 ≤ 140737488351232

structure DLetter where
  Up : Bool
  Mail : DMail
instance : Inhabited DLetter := ⟨⟨false, default⟩⟩
def encLetter (x : DLetter) : List V := [.lit (.bool x.Up), .lit (.int .i64 x.Mail.Peer), .ro (x.Mail.Data.map encB)]
def wfLetter (x : DLetter) : Prop := wfMail x.Mail

structure DWorld where
  Gate : DGate
  Clients : List DClient
  Way : List DLetter
  Now : Int
instance : Inhabited DWorld := ⟨⟨default, [], [], 0⟩⟩
def encWorld (x : DWorld) : List V := [.lit (.int .u64 x.Gate.Secret), .lit (.int .i64 x.Gate.Now), .lit (.int .i64 x.Gate.Next), .ro (x.Gate.Notes.map encNote), .lit (.bool x.Gate.Tally0.Known), .lit (.int .i64 x.Gate.Tally0.Got), .lit (.int .i64 x.Gate.Tally0.Sent), .lit (.bool x.Gate.Tally1.Known), .lit (.int .i64 x.Gate.Tally1.Got), .lit (.int .i64 x.Gate.Tally1.Sent), .lit (.bool x.Gate.Tally2.Known), .lit (.int .i64 x.Gate.Tally2.Got), .lit (.int .i64 x.Gate.Tally2.Sent), .lit (.bool x.Gate.Tally3.Known), .lit (.int .i64 x.Gate.Tally3.Got), .lit (.int .i64 x.Gate.Tally3.Sent), .lit (.bool x.Gate.Retry), .lit (.int .i64 x.Gate.Shed), .ro (x.Clients.map encClient), .ro (x.Way.map encLetter), .lit (.int .i64 x.Now)]
def wfWorld (x : DWorld) : Prop := wfGate x.Gate ∧ x.Clients.length * 336 ≤ 140737488351232 ∧ (∀ y, y ∈ x.Clients → wfClient y) ∧ x.Way.length * 40 ≤ 140737488351232 ∧ (∀ y, y ∈ x.Way → wfLetter y) ∧ I64 x.Now

end Go.Proofs.Ytendheafcbickaa

/-
  WHAT ALL PROOFS OF THIS SEAT STAND ON: a law's row out of its walk alone, and what an argument that came in reads as. Plain lemmas, over any program.
-/
set_option linter.unusedSimpArgs false
set_option linter.unusedVariables false
namespace Go.Proofs.Ytendheafcbickaa
open Go.ChangeShapes Go.WideShapes Go.ChangeAt Go.RowKit Go.Deep

/-- cells that read as data of a type, each part within the form's reach -/
def Cells (P : Program) (W : World) (t : TypeId) (cs : List Value) : Prop :=
  ∃ (H : Type) (enc : TypeId × Value → H) (fuel : Nat) (x : DataW H × List MemPlace),
    DataW.trod enc P W 0 (fun _ => true) true fuel t cs = some x ∧ ∀ n ∈ x.1.weights P t, n ≤ reachBytes

/-- an argument of a law -/
def ArgIs (P : Program) (W : World) (t : TypeId) (v : Value) : Prop :=
  (∃ base, Value.okWide P W .any base t v) ∧ Cells P W t v.cells.toList

def ArgsAre (P : Program) (W : World) : List TypeId → List Value → Prop
  | [], vs => vs = []
  | t :: ts, vs => ∃ v vs', vs = v :: vs' ∧ ArgIs P W t v ∧ ArgsAre P W ts vs'

section
variable {P : Program} {W : World} {t e : TypeId} {v : Value} {cs : List Value}

theorem Cells.int_ {k : IntKind} (hu : P.underlying t = some (.int k)) (h : Cells P W t cs) : ∃ n, cs = [.int k n] ∧ (Lit.int k n).wf = true := by
  obtain ⟨H, enc, fuel, x, hx, _⟩ := h
  obtain ⟨n, h1, _, h3⟩ := DataW.trod_int hu hx
  exact ⟨n, h1, h3⟩

theorem Cells.bool_ (hu : P.underlying t = some .bool) (h : Cells P W t cs) : ∃ b : Bool, cs = [.bool b] := by
  obtain ⟨H, enc, fuel, x, hx, _⟩ := h
  obtain ⟨n, h1, _⟩ := DataW.trod_bool hu hx
  exact ⟨n, h1⟩

theorem weights_all_mem {H : Type} {P : Program} {e : TypeId} : ∀ {ds : List (DataW H)} {d : DataW H}, d ∈ ds → ∀ n ∈ d.weights P e, n ∈ DataW.weightsAll P e ds
  | [], _, h, _, _ => by cases h
  | d0 :: ds, d, h, n, hn => by
    simp only [DataW.weightsAll, List.mem_append]
    rcases List.mem_cons.1 h with rfl | h
    · exact .inl hn
    · exact .inr (weights_all_mem h n hn)

theorem Cells.slice_ (hu : P.underlying t = some (.slice e)) (h : Cells P W t cs) :
    (cs = [.slice none 0 0]) ∨ ∃ (a : Addr) (len cap : Nat), cs = [.slice (some a) len cap] ∧ len ≤ cap ∧ cap ≤ maxLen ∧ cap * P.bytesOf e ≤ reachBytes ∧
      ∀ i, i < cap → ∃ es, es.length = P.cellsOf e ∧ (∀ j, j < P.cellsOf e → W.cell? ((a.add (i * P.cellsOf e)).add j) = es[j]?) ∧ Cells P W e es := by
  obtain ⟨H, enc, fuel, x, hx, hw⟩ := h
  rcases open_slice hu hx with h0 | ⟨a, len, cap, m, n, D, Pl, hcs, _, hl, hm, hmm, hxx, hi⟩
  · exact .inl h0.1
  · simp only [if_true] at hmm
    subst hmm
    subst hxx
    refine .inr ⟨a, len, m, hcs, hl, hm, ?_, fun i him => ?_⟩
    · have := hw ((len + (m - len)) * P.bytesOf e) (by simp [DataW.weights, hu])
      rwa [show len + (m - len) = m by omega] at this
    · obtain ⟨es, hc, ht⟩ := hi i him
      obtain ⟨_, hl', hat⟩ := World.cells?_some hc
      refine ⟨es, hl', hat, H, enc, n, _, ht, fun n' hn' => hw n' ?_⟩
      simp only [DataW.weights, hu, List.mem_cons, List.mem_append]
      right
      by_cases hil : i < len
      · exact .inl (weights_all_mem (List.mem_map.2 ⟨i, List.mem_range.2 hil, rfl⟩) _ hn')
      · exact .inr (weights_all_mem (List.mem_map.2 ⟨i - len, List.mem_range.2 (by omega), by rw [show len + (i - len) = i by omega]⟩) _ hn')

theorem Cells.struct_ {fs : Array Field} (hu : P.underlying t = some (.struct fs)) (h : Cells P W t cs) :
    cs.length = P.cellsOf t ∧ ∀ (i : Nat) (f : Field), fs[i]? = some f → Cells P W f.type ((cs.drop f.offset).take (P.cellsOf f.type)) := by
  obtain ⟨H, enc, fuel, x, hx, hw⟩ := h
  obtain ⟨xs, n, _, rfl, hl, hlen, hf⟩ := DataW.trod_struct hu hx
  refine ⟨hl, fun i f hi => ?_⟩
  have hlt : i < xs.length := by rw [hlen]; exact (Array.getElem?_eq_some_iff.1 hi).1
  have h1 := hf i f hi
  rw [List.getElem?_eq_getElem hlt] at h1
  refine ⟨H, enc, n, _, h1, fun n' hn' => hw n' ?_⟩
  simp only [DataW.weights, hu]
  exact DataW.weights_mem_each (j := i) (t := f.type) (d := xs[i].1) (by simp [← Array.getElem?_toList] at hi ⊢; exact ⟨f, hi, rfl⟩) (by simp [hlt]) _ hn'

theorem ArgIs.int_ {k : IntKind} (hu : P.underlying t = some (.int k)) (h : ArgIs P W t v) : ∃ n, v = .int k n ∧ (Lit.int k n).wf = true := by
  obtain ⟨⟨b, hb⟩, hc⟩ := h
  obtain ⟨n, rfl⟩ := okWide_int hu hb
  obtain ⟨n', h1, h2⟩ := hc.int_ hu
  simp [Value.cells] at h1
  subst h1
  exact ⟨n, rfl, h2⟩

theorem ArgIs.bool_ (hu : P.underlying t = some .bool) (h : ArgIs P W t v) : ∃ b : Bool, v = .bool b := by
  obtain ⟨⟨b, hb⟩, hc⟩ := h
  exact okWide_bool hu hb

theorem ArgIs.slice_ (hu : P.underlying t = some (.slice e)) (h : ArgIs P W t v) : ∃ a n c, v = .slice a n c ∧ Cells P W t [.slice a n c] := by
  obtain ⟨⟨b, hb⟩, hc⟩ := h
  obtain ⟨a, n, c, rfl⟩ := okWide_slice hu hb
  exact ⟨a, n, c, rfl, by simpa [Value.cells] using hc⟩

theorem ArgIs.struct_ {fs : Array Field} (hu : P.underlying t = some (.struct fs)) (h : ArgIs P W t v) : ∃ cs : List Value, v = .agg cs.toArray ∧ Cells P W t cs := by
  obtain ⟨⟨b, hb⟩, hc⟩ := h
  obtain ⟨cs, rfl, _⟩ := okWide_struct hu hb
  exact ⟨cs.toList, by simp, by simpa [Value.cells] using hc⟩
end

/-! ### A law's row, out of its walk -/
theorem trodAll_below {H : Type} {enc : TypeId × Value → H} {P : Program} (hl : laidOutB P = true) {W W' : World} (hb : Below W.heap.size W W') :
    ∀ {ts : List TypeId} {vs : List Value} {ds : List (DataW H)} {ps : List MemPlace}, (∀ t ∈ ts, P.readableRec t = true ∧ t < P.types.size) →
      DataW.TrodAll enc P W 0 (fun _ => true) true ts vs ds ps → DataW.TrodAll enc P W' 0 (fun b => decide (b < W.heap.size)) true ts vs ds ps
  | [], vs, ds, ps, _, h => by cases vs <;> cases ds <;> simp_all [DataW.TrodAll]
  | t :: ts, vs, ds, ps, hr, h => by
    obtain ⟨v, vs', d, ds', p, q, rfl, rfl, rfl, h1, h2⟩ := trodAll_cons h
    have hlt : ∀ x ∈ p, x.block < W.heap.size := by
      obtain ⟨m, hm⟩ := h1
      exact DataW.trod_lt m _ _ _ hm
    exact trodAll_cons_mk (Below.trod hl (hr t (by simp)).1 (hr t (by simp)).2 h1 hb hlt) (trodAll_below hl hb (fun t' ht => hr t' (by simp [ht])) h2)

theorem argsAre_of {H : Type} {enc : TypeId × Value → H} {P : Program} {W : World} :
    ∀ {ts : List TypeId} {vs : List Value} {ds : List (DataW H)} {ps : List MemPlace}, (∀ (j : Nat) t v, ts[j]? = some t → vs[j]? = some v → ∃ base, Value.okWide P W .any base t v) →
      (∀ n ∈ DataW.weightsEach P ts ds, n ≤ reachBytes) → DataW.TrodAll enc P W 0 (fun _ => true) true ts vs ds ps → ArgsAre P W ts vs
  | [], vs, ds, ps, _, _, h => by cases vs <;> cases ds <;> simp_all [DataW.TrodAll, ArgsAre]
  | t :: ts, vs, ds, ps, hv, hw, h => by
    obtain ⟨v, vs', d, ds', p, q, rfl, rfl, rfl, h1, h2⟩ := trodAll_cons h
    refine ⟨v, vs', rfl, ⟨hv 0 t v rfl rfl, ?_⟩, argsAre_of (fun j t' v' h3 h4 => hv (j + 1) t' v' (by simpa using h3) (by simpa using h4)) (fun n hn => hw n (by simp [DataW.weightsEach, hn])) h2⟩
    obtain ⟨m, hm⟩ := h1
    exact ⟨H, enc, m, _, hm, fun n hn => hw n (by simp [DataW.weightsEach, hn])⟩

/-- THE ROW's STEP of every law: what is left is its walk. -/
theorem law_lifted {C : Checked} {os : Os} {f : FuncId} {fn : Func} {s : ChangeSpec} {tb : TypeId} {H : Type} {enc : TypeId × Value → H}
    (own : ownKnob C.prog.godebug = none) (started : os.Started) (noInit : C.prog.inits.idxOf? f = none) (hfn : C.prog.funcs[f]? = some fn)
    (witness : ∃ (w : World) (tape : Tape) (i : Input), w.os = os ∧ (w.forCall tape i).Shaped C.prog ∧ i.vars = [] ∧ Input.okWide C.prog (w.forCall tape i) .any w.heap.size f i ∧
      s.pre6 enc C.prog fn [] false (w.forCall tape i).memory i.args ∧ ({} : Assume).holds C.prog (lone (Frame.enter C.prog f i.args .normal) [] (w.forCall tape i)))
    (hl : laidOutB C.prog = true) (hvars : s.vars = []) (hspec : ∀ ds : List (DataW H), ds.length = fn.params.size → s.fn H ds = { results := [.lit (.bool true)], args := ds })
    (hres : fn.resultTypes = #[tb]) (hb : C.prog.underlying tb = some .bool) (hreadB : (fn.params.toList.all fun t => C.prog.readableRec t && decide (t < C.prog.types.size)) = true)
    (walk : ∀ (W : World) (args : Array Value), ArgsAre C.prog W fn.params.toList args.toList → Calls C.prog f args W fun e W' => e = .returned (.bool true) ∧ Below W.heap.size W W') :
    ReturnsInHanded {} C os f .any (s.pre6 enc C.prog fn [] false) (s.post enc C.prog fn false true false false) := by
  refine returnsInHanded_of_change_sized own started noInit hfn witness ?_
  have hread : ∀ t ∈ fn.params.toList, C.prog.readableRec t = true ∧ t < C.prog.types.size := fun t ht => by
    have := List.all_eq_true.1 hreadB t ht
    simpa using this
  intro W base args ds gs before hval hW _ hsz _
  have hW' := hW
  obtain ⟨p, q, hA, hV, rfl, hfz, hnd⟩ := hW
  rw [hvars] at hV
  obtain ⟨rfl, rfl⟩ := trodVars_none hV
  have hlen : ds.length = fn.params.size := by
    have : ∀ (ts : List TypeId) (vs : List Value) (ds : List (DataW H)) (ps : List MemPlace), DataW.TrodAll enc C.prog W 0 (fun _ => true) true ts vs ds ps → ds.length = ts.length := by
      intro ts
      induction ts with
      | nil => intro vs ds ps h; cases vs <;> cases ds <;> simp_all [DataW.TrodAll]
      | cons t ts ih =>
        intro vs ds ps h
        obtain ⟨v, vs', d, ds', p, q, rfl, rfl, rfl, h1, h2⟩ := trodAll_cons h
        simp [ih _ _ _ h2]
    simpa using this _ _ _ _ hA
  have hsz' : ∀ n ∈ DataW.weightsEach C.prog fn.params.toList ds, n ≤ reachBytes := by
    have hv : s.plain.varTypes C.prog = [] := by simp [ChangeSpec.plain, DataSpec.varTypes, hvars]
    rw [hv] at hsz
    simpa using hsz
  have hargs : ArgsAre C.prog W fn.params.toList args.toList := argsAre_of (fun j t v h1 h2 => ⟨base, hval j t v (by simpa using h1) (by simpa using h2)⟩) hsz' hA
  refine (walk W args hargs).mono fun e W' ⟨he, bel⟩ => ?_
  subst he
  have hsp := hspec (ds ++ []) (by simpa using hlen)
  refine ⟨_, rfl, ds, [], _, [], p, [], hW', ?_, ?_, ?_, bel.frame _, fun h => by cases h⟩
  · rw [hsp, hres]
    exact trodAll_mk1 (shut_bool hb _)
  · rw [hsp]
    simp only [List.append_nil]
    exact trodAll_below hl bel hread hA
  · rw [hvars, hsp]
    rfl
end Go.Proofs.Ytendheafcbickaa

/-
  ARGUMENTS AS DATA: what a caller hands over reads as abstract values. Plain lemmas, over any program.
-/
set_option linter.unusedVariables false
set_option linter.unusedSimpArgs false
set_option linter.unusedVariables false
namespace Go.Proofs.Ytendheafcbickaa
open Go.ChangeShapes Go.WideShapes Go.ChangeAt Go.RowKit Go.Deep

theorem i64_of_wf {x : Int} (h : (Lit.int .i64 x).wf = true) : I64 x := bounds_i64 h
/-- cells read as abstract values -/
def RdC (S : Nat → Prop) (w : World) (cs : List V) (es : List Value) : Prop := es.length = cs.length ∧ ∀ j, j < cs.length → PRel S w (cAt cs j) (es.getD j undef)
theorem rd0 {S : Nat → Prop} {w : World} : RdC S w [] [] := ⟨rfl, fun j hj => by simp at hj⟩
theorem rdc {S : Nat → Prop} {w : World} {c : V} {u : Value} {cs : List V} {es : List Value} (h : PRel S w c u) (k : RdC S w cs es) : RdC S w (c :: cs) (u :: es) := by
  refine ⟨by simp [k.1], fun j hj => ?_⟩
  cases j with
  | zero => simpa [cAt] using h
  | succ j => have := k.2 j (by simpa using hj); simpa [cAt] using this

theorem rdB_of_cells {P : Program} {W : World} {t : TypeId} {S : Nat → Prop} (hu : P.underlying t = some (.int .u8)) (es : List Value) (h : Cells P W t es) : ∃ x, RdC S W (encB x) es ∧ True := by
  obtain ⟨n, rfl, hw⟩ := h.int_ hu
  have := bounds_u8 hw
  refine ⟨UInt8.ofNat n.toNat, rdc ?_ rd0, trivial⟩
  have e : ((UInt8.ofNat n.toNat).toNat : Int) = n := by
    rw [UInt8.toNat_ofNat']; omega
  rw [e]; exact .lit _ rfl
theorem rd_of_slice {α : Type} {P : Program} {W : World} {t e : TypeId} {v : Value} {enc : α → List V} {wf : α → Prop} {size bytes : Nat}
    (hu : P.underlying t = some (.slice e)) (hs : P.cellsOf e = size) (hb : P.bytesOf e = bytes) (hpos : 0 < size)
    (hR : ∀ es, Cells P W e es → ∃ x, RdC (fun b => b < W.heap.size) W (enc x) es ∧ wf x) (h : Cells P W t [v]) :
    ∃ l : List α, PRel (fun b => b < W.heap.size) W (.ro (l.map enc)) v ∧ l.length * bytes ≤ 140737488351232 ∧ ∀ y, y ∈ l → wf y := by
  rcases h.slice_ hu with h0 | ⟨a, len, cap, hv, hl, hmax, hc, he⟩
  · injection h0 with h0 _
    subst h0
    exact ⟨[], .ro [] none 0 1 0 0 (fun _ _ => undef) (Nat.le_refl _) (by unfold maxLen; omega) (by omega) (fun h => by simp at h) (fun i hi => by simp at hi) (fun i j hi => by simp at hi) (fun i j hi => by simp at hi), by simp, fun y hy => by simp at hy⟩
  · injection hv with hv _
    subst hv
    rw [hs] at he
    rw [hb] at hc
    have hx : ∀ i, i < len → ∃ x es, es.length = size ∧ (∀ j, j < size → W.cell? ((a.add (i * size)).add j) = es[j]?) ∧ RdC (fun b => b < W.heap.size) W (enc x) es ∧ wf x := fun i hi => by
      obtain ⟨es, h1, h2, h3⟩ := he i (by omega)
      obtain ⟨x, hx, hw⟩ := hR es h3
      exact ⟨x, es, h1, h2, hx, hw⟩
    have hl' : ∃ l : List α, l.length = len ∧ (∀ i (h : i < l.length), ∃ es, es.length = size ∧ (∀ j, j < size → W.cell? ((a.add (i * size)).add j) = es[j]?) ∧ RdC (fun b => b < W.heap.size) W (enc l[i]) es) ∧ ∀ y, y ∈ l → wf y := by
      clear hl hc he h
      induction len with
      | zero => exact ⟨[], rfl, fun i hi => by simp at hi, fun y hy => by simp at hy⟩
      | succ n ih =>
        obtain ⟨l, hl, hl2, hl3⟩ := ih (fun i hi => hx i (by omega))
        obtain ⟨x, es, h1, h2, h3, h4⟩ := hx n (by omega)
        refine ⟨l ++ [x], by simp [hl], fun i hi => ?_, fun y hy => ?_⟩
        · simp at hi
          by_cases hin : i < l.length
          · rw [List.getElem_append_left hin]
            exact hl2 i hin
          · have : i = n := by omega
            subst this
            refine ⟨es, h1, h2, ?_⟩
            rw [List.getElem_append_right (by omega)]
            simpa [hl] using h3
        · simp at hy
          rcases hy with hy | rfl
          · exact hl3 y hy
          · exact h4
    obtain ⟨l, hll, hl2, hl3⟩ := hl'
    subst hll
    have hlb : l.length * bytes ≤ reachBytes := Nat.le_trans (Nat.mul_le_mul_right _ hl) hc
    refine ⟨l, ?_, by unfold reachBytes at hlb; omega, hl3⟩
    by_cases h0 : 0 < l.length
    · obtain ⟨es0, g1, g2, _⟩ := hl2 0 h0
      have hsp : a.spot = none := by
        have g := g2 0 hpos
        rw [List.getElem?_eq_getElem (by omega)] at g
        have := World.cell?_spot g
        simpa [Addr.add] using this
      obtain ⟨b, off, spot⟩ := a
      simp only at hsp
      subst hsp
      simp only [add_addr] at hl2 g2
      have hlt : b < W.heap.size := by
        have g := g2 0 hpos
        rw [List.getElem?_eq_getElem (by omega)] at g
        exact cell_lt g
      have hsz : ∀ i (h : i < l.length), (enc l[i]).length = size := fun i hi => by
        obtain ⟨es, q1, q2, q3⟩ := hl2 i hi
        rw [← q3.1, q1]
      have hmap : ∀ i (h : i < l.length), eAt (l.map enc) i = enc l[i] := fun i hi => by
        unfold eAt
        rw [List.getD_eq_getElem?_getD, List.getElem?_map, List.getElem?_eq_getElem hi]; rfl
      have : PRel (fun b => b < W.heap.size) W (.ro (l.map enc)) (.slice (some ⟨b, off, none⟩) (l.map enc).length cap) := by
        refine .ro _ _ cap size b off (fun i j => (W.cell? ⟨b, off + i * size + j, none⟩).getD undef) (by simpa using hl) hmax hpos (fun _ => ⟨rfl, hlt⟩) (fun i hi => ?_) (fun i j hi hj => ?_) (fun i j hi hj => ?_)
        · rw [List.length_map] at hi; rw [hmap i hi]; exact hsz i hi
        · rw [List.length_map] at hi
          obtain ⟨es, q1, q2, q3⟩ := hl2 i hi
          rw [q2 j hj, List.getElem?_eq_getElem (by omega)]; rfl
        · rw [List.length_map] at hi
          obtain ⟨es, q1, q2, q3⟩ := hl2 i hi
          rw [hmap i hi, q2 j hj]
          have := q3.2 j (by rw [hsz i hi]; exact hj)
          rwa [List.getD_eq_getElem?_getD] at this
      rwa [List.length_map] at this
    · have hn : l = [] := List.eq_nil_of_length_eq_zero (by omega)
      subst hn
      exact .ro [] (some a) cap 1 0 0 (fun _ _ => undef) (by simp) hmax (by omega) (fun h => by simp at h) (fun i hi => by simp at hi) (fun i j hi => by simp at hi) (fun i j hi => by simp at hi)

/-! ### A law, out of what its function answers -/
def ArgV (W : World) (v : Value) (x : V) : Prop := VRel (fun _ => none) (fun b => b < W.heap.size) W x v
theorem argv_lit {W : World} {u : Value} (h : u.oneCell' = true) : ArgV W u (.lit u) := .pure (.lit _ h)
theorem argv_ro {W : World} {u : Value} {l : List (List V)} (h : PRel (fun b => b < W.heap.size) W (.ro l) u) : ArgV W u (.ro l) := .pure h
theorem argv_agg {W : World} {cs : List V} {es : List Value} (h : RdC (fun b => b < W.heap.size) W cs es) : ArgV W (.agg es.toArray) (.agg cs) :=
  .agg (by simp [h.1]) (fun j hj => by
    have := h.2 j hj
    have e : es.toArray.getD j undef = es.getD j undef := by rw [Array.getD_eq_getD_getElem?, List.getD_eq_getElem?_getD]; simp
    rw [e]; exact .pure this)
inductive ArgVs (W : World) : List V → List Value → Prop
  | nil : ArgVs W [] []
  | cons {x : V} {v : Value} {xs : List V} {vs : List Value} (h : ArgV W v x) (hs : ArgVs W xs vs) : ArgVs W (x :: xs) (v :: vs)
theorem ArgVs.spec {W : World} {xs : List V} {vs : List Value} (h : ArgVs W xs vs) : vs.length = xs.length ∧ ∀ j, j < xs.length → ArgV W (vs.getD j undef) (cAt xs j) := by
  induction h with
  | nil => exact ⟨rfl, fun j hj => by simp at hj⟩
  | cons h hs ih =>
    refine ⟨by simp [ih.1], fun j hj => ?_⟩
    cases j with
    | zero => simpa [cAt] using h
    | succ j => have := ih.2 j (by simpa using hj); simpa [cAt] using this
theorem law_of_fn {P : Program} {f : FuncId} {xs : List V} {vs : List Value} {W : World} (hf : Fn P f xs (.lit (.bool true))) (ha : ArgVs W xs vs) : Calls P f vs.toArray W fun e W' => e = .returned (.bool true) ∧ Below W.heap.size W W' := by
  obtain ⟨h1, h2⟩ := ha.spec
  refine (hf.2 W (fun _ => True) vs.toArray (by simpa using h1) (fun _ _ => trivial) (fun j hj => ?_)).mono ?_
  · have e : vs.toArray.getD j undef = vs.getD j undef := by rw [Array.getD_eq_getD_getElem?, List.getD_eq_getElem?_getD]; simp
    rw [e]
    exact (h2 j hj).mono (Same.refl _ _) (fun _ _ _ => trivial) (fun _ _ h => h)
  · rintro e w' ⟨v, rfl, hb, hv⟩
    rw [lit_inv hv]
    exact ⟨rfl, hb⟩
end Go.Proofs.Ytendheafcbickaa

/-
  WITHIN THE BOUND OF THE SECOND FORM: a law's row out of its walk alone, and what an argument that came in reads as: no list and no string has more than 1048576 elements.
-/

set_option linter.unusedVariables false
set_option linter.unusedSimpArgs false
set_option linter.unusedVariables false
namespace Go.Proofs.Ytendheafcbickaa.U
open Go.ChangeShapes Go.WideShapes Go.ChangeAt Go.RowKit Go.Deep

/-- cells that read as data of a type, each part within the form's reach -/
def Cells (P : Program) (W : World) (t : TypeId) (cs : List Value) : Prop :=
  ∃ (H : Type) (enc : TypeId × Value → H) (fuel : Nat) (x : DataW H × List MemPlace),
    DataW.trod enc P W 0 (fun _ => true) true fuel t cs = some x ∧ Rows.uptoBulk x.1 ≤ 1048576

/-- an argument of a law -/
def ArgIs (P : Program) (W : World) (t : TypeId) (v : Value) : Prop :=
  (∃ base, Value.okWide P W .any base t v) ∧ Cells P W t v.cells.toList

def ArgsAre (P : Program) (W : World) : List TypeId → List Value → Prop
  | [], vs => vs = []
  | t :: ts, vs => ∃ v vs', vs = v :: vs' ∧ ArgIs P W t v ∧ ArgsAre P W ts vs'

section
variable {P : Program} {W : World} {t e : TypeId} {v : Value} {cs : List Value}

theorem Cells.int_ {k : IntKind} (hu : P.underlying t = some (.int k)) (h : Cells P W t cs) : ∃ n, cs = [.int k n] ∧ (Lit.int k n).wf = true := by
  obtain ⟨H, enc, fuel, x, hx, _⟩ := h
  obtain ⟨n, h1, _, h3⟩ := DataW.trod_int hu hx
  exact ⟨n, h1, h3⟩

theorem Cells.bool_ (hu : P.underlying t = some .bool) (h : Cells P W t cs) : ∃ b : Bool, cs = [.bool b] := by
  obtain ⟨H, enc, fuel, x, hx, _⟩ := h
  obtain ⟨n, h1, _⟩ := DataW.trod_bool hu hx
  exact ⟨n, h1⟩

theorem bulk_mem {H : Type} : ∀ {ds : List (DataW H)} {d : DataW H}, d ∈ ds → Rows.uptoBulk d ≤ Rows.uptoBulkAll ds
  | [], _, h => by cases h
  | d0 :: ds, d, h => by
    simp only [Rows.uptoBulkAll]
    rcases List.mem_cons.1 h with rfl | h
    · omega
    · have := bulk_mem h; omega
theorem bulk_one {H : Type} (d : DataW H) : 1 ≤ Rows.uptoBulk d := by
  cases d with
  | lit l => cases l <;> simp [Rows.uptoBulk]
  | _ => simp [Rows.uptoBulk]
theorem bulk_length {H : Type} : ∀ (l : List (DataW H)), l.length ≤ Rows.uptoBulkAll l
  | [] => by simp [Rows.uptoBulkAll]
  | x :: r => by
    have h1 := bulk_one x
    have h2 := bulk_length r
    simp only [Rows.uptoBulkAll, List.length_cons]; omega

theorem Cells.slice_ (hu : P.underlying t = some (.slice e)) (h : Cells P W t cs) :
    (cs = [.slice none 0 0]) ∨ ∃ (a : Addr) (len cap : Nat), cs = [.slice (some a) len cap] ∧ len ≤ cap ∧ cap ≤ maxLen ∧ cap ≤ 1048576 ∧
      ∀ i, i < cap → ∃ es, es.length = P.cellsOf e ∧ (∀ j, j < P.cellsOf e → W.cell? ((a.add (i * P.cellsOf e)).add j) = es[j]?) ∧ Cells P W e es := by
  obtain ⟨H, enc, fuel, x, hx, hw⟩ := h
  rcases open_slice hu hx with h0 | ⟨a, len, cap, m, n, D, Pl, hcs, _, hl, hm, hmm, hxx, hi⟩
  · exact .inl h0.1
  · simp only [if_true] at hmm
    subst hmm
    subst hxx
    refine .inr ⟨a, len, m, hcs, hl, hm, ?_, fun i him => ?_⟩
    · simp only [Rows.uptoBulk] at hw
      have k1 := bulk_length ((List.range len).map D)
      have k2 := bulk_length ((List.range (m - len)).map fun i => D (len + i))
      simp only [List.length_map, List.length_range] at k1 k2
      omega
    · obtain ⟨es, hc, ht⟩ := hi i him
      obtain ⟨_, hl', hat⟩ := World.cells?_some hc
      refine ⟨es, hl', hat, H, enc, n, _, ht, ?_⟩
      simp only [Rows.uptoBulk] at hw
      by_cases hil : i < len
      · have := bulk_mem (H := H) (ds := (List.range len).map D) (d := D i) (List.mem_map.2 ⟨i, List.mem_range.2 hil, rfl⟩)
        dsimp only
        omega
      · have := bulk_mem (H := H) (ds := (List.range (m - len)).map fun j => D (len + j)) (d := D i) (List.mem_map.2 ⟨i - len, List.mem_range.2 (show i - len < m - len by omega), by rw [show len + (i - len) = i by omega]⟩)
        dsimp only
        omega

theorem Cells.struct_ {fs : Array Field} (hu : P.underlying t = some (.struct fs)) (h : Cells P W t cs) :
    cs.length = P.cellsOf t ∧ ∀ (i : Nat) (f : Field), fs[i]? = some f → Cells P W f.type ((cs.drop f.offset).take (P.cellsOf f.type)) := by
  obtain ⟨H, enc, fuel, x, hx, hw⟩ := h
  obtain ⟨xs, n, _, rfl, hl, hlen, hf⟩ := DataW.trod_struct hu hx
  refine ⟨hl, fun i f hi => ?_⟩
  have hlt : i < xs.length := by rw [hlen]; exact (Array.getElem?_eq_some_iff.1 hi).1
  have h1 := hf i f hi
  rw [List.getElem?_eq_getElem hlt] at h1
  refine ⟨H, enc, n, _, h1, ?_⟩
  simp only [Rows.uptoBulk] at hw
  have := bulk_mem (H := H) (ds := xs.map (·.1)) (d := xs[i].1) (List.mem_map.2 ⟨xs[i], List.getElem_mem hlt, rfl⟩)
  omega
theorem ArgIs.int_ {k : IntKind} (hu : P.underlying t = some (.int k)) (h : ArgIs P W t v) : ∃ n, v = .int k n ∧ (Lit.int k n).wf = true := by
  obtain ⟨⟨b, hb⟩, hc⟩ := h
  obtain ⟨n, rfl⟩ := okWide_int hu hb
  obtain ⟨n', h1, h2⟩ := hc.int_ hu
  simp [Value.cells] at h1
  subst h1
  exact ⟨n, rfl, h2⟩

theorem ArgIs.bool_ (hu : P.underlying t = some .bool) (h : ArgIs P W t v) : ∃ b : Bool, v = .bool b := by
  obtain ⟨⟨b, hb⟩, hc⟩ := h
  exact okWide_bool hu hb

theorem ArgIs.slice_ (hu : P.underlying t = some (.slice e)) (h : ArgIs P W t v) : ∃ a n c, v = .slice a n c ∧ Cells P W t [.slice a n c] := by
  obtain ⟨⟨b, hb⟩, hc⟩ := h
  obtain ⟨a, n, c, rfl⟩ := okWide_slice hu hb
  exact ⟨a, n, c, rfl, by simpa [Value.cells] using hc⟩

theorem ArgIs.struct_ {fs : Array Field} (hu : P.underlying t = some (.struct fs)) (h : ArgIs P W t v) : ∃ cs : List Value, v = .agg cs.toArray ∧ Cells P W t cs := by
  obtain ⟨⟨b, hb⟩, hc⟩ := h
  obtain ⟨cs, rfl, _⟩ := okWide_struct hu hb
  exact ⟨cs.toList, by simp, by simpa [Value.cells] using hc⟩
end

theorem argsAre_of {H : Type} {enc : TypeId × Value → H} {P : Program} {W : World} :
    ∀ {ts : List TypeId} {vs : List Value} {ds : List (DataW H)} {ps : List MemPlace}, (∀ (j : Nat) t v, ts[j]? = some t → vs[j]? = some v → ∃ base, Value.okWide P W .any base t v) →
      Rows.uptoBulkAll ds ≤ 1048576 → DataW.TrodAll enc P W 0 (fun _ => true) true ts vs ds ps → ArgsAre P W ts vs
  | [], vs, ds, ps, _, _, h => by cases vs <;> cases ds <;> simp_all [DataW.TrodAll, ArgsAre]
  | t :: ts, vs, ds, ps, hv, hw, h => by
    obtain ⟨v, vs', d, ds', p, q, rfl, rfl, rfl, h1, h2⟩ := trodAll_cons h
    refine ⟨v, vs', rfl, ⟨hv 0 t v rfl rfl, ?_⟩, argsAre_of (fun j t' v' h3 h4 => hv (j + 1) t' v' (by simpa using h3) (by simpa using h4)) (by simp only [Rows.uptoBulkAll] at hw; omega) h2⟩
    obtain ⟨m, hm⟩ := h1
    exact ⟨H, enc, m, _, hm, by simp only [Rows.uptoBulkAll] at hw; dsimp only; omega⟩

/-- THE ROW's STEP of every law in the second form: what is left is its walk. -/
theorem law_lifted {C : Checked} {os : Os} {f : FuncId} {fn : Func} {s : ChangeSpec} {tb : TypeId} {H : Type} {enc : TypeId × Value → H} {F : Stop.Interp}
    (own : ownKnob C.prog.godebug = none) (started : os.Started) (noInit : C.prog.inits.idxOf? f = none) (hfn : C.prog.funcs[f]? = some fn)
    (witness : ∃ (w : World) (tape : Tape) (i : Input), w.os = os ∧ (w.forCall tape i).Shaped C.prog ∧ i.vars = [] ∧ Input.okWide C.prog (w.forCall tape i) .any w.heap.size f i ∧
      (Rows.OpenSpec.upto s).pre6 enc C.prog fn [] false (w.forCall tape i).memory i.args ∧ ({} : Assume).holds C.prog (lone (Frame.enter C.prog f i.args .normal) [] (w.forCall tape i)))
    (hl : laidOutB C.prog = true) (hvars : s.vars = []) (hspec : ∀ ds : List (DataW H), ds.length = fn.params.size → s.fn H ds = { results := [.lit (.bool true)], args := ds })
    (hres : fn.resultTypes = #[tb]) (hb : C.prog.underlying tb = some .bool) (hreadB : (fn.params.toList.all fun t => C.prog.readableRec t && decide (t < C.prog.types.size)) = true)
    (walk : ∀ (W : World) (args : Array Value), ArgsAre C.prog W fn.params.toList args.toList → Calls C.prog f args W fun e W' => e = .returned (.bool true) ∧ Below W.heap.size W W') :
    ReturnsInHanded {} C os f .any ((Rows.OpenSpec.upto s).pre6 enc C.prog fn [] false) (((Rows.OpenSpec.upto s).at F).post enc C.prog fn false true false false) := by
  refine returnsInHanded_of_cond_sized (s := Rows.OpenSpec.upto s) (k := Rows.uptoSmall) rfl own started noInit hfn witness ?_
  have hread : ∀ t ∈ fn.params.toList, C.prog.readableRec t = true ∧ t < C.prog.types.size := fun t ht => by
    have := List.all_eq_true.1 hreadB t ht
    simpa using this
  intro W base args ds gs before hval hW _ hk _ _
  have hW' := hW
  obtain ⟨p, q, hA, hV, rfl, hfz, hnd⟩ := hW
  have hvars' : (Rows.OpenSpec.upto s).vars = [] := hvars
  rw [hvars'] at hV
  obtain ⟨rfl, rfl⟩ := trodVars_none hV
  have hlen : ds.length = fn.params.size := by
    have : ∀ (ts : List TypeId) (vs : List Value) (ds : List (DataW H)) (ps : List MemPlace), DataW.TrodAll enc C.prog W 0 (fun _ => true) true ts vs ds ps → ds.length = ts.length := by
      intro ts
      induction ts with
      | nil => intro vs ds ps h; cases vs <;> cases ds <;> simp_all [DataW.TrodAll]
      | cons t ts ih =>
        intro vs ds ps h
        obtain ⟨v, vs', d, ds', p, q, rfl, rfl, rfl, h1, h2⟩ := trodAll_cons h
        simp [ih _ _ _ h2]
    simpa using this _ _ _ _ hA
  have hk' : Rows.uptoSmall H ds = true := by rw [List.append_nil] at hk; exact hk
  have hargs : ArgsAre C.prog W fn.params.toList args.toList := argsAre_of (fun j t v h1 h2 => ⟨base, hval j t v (by simpa using h1) (by simpa using h2)⟩) (of_decide_eq_true hk') hA
  refine (walk W args hargs).mono fun e W' ⟨he, bel⟩ => ?_
  subst he
  have hsp : ((Rows.OpenSpec.upto s).at F).fn H (ds ++ []) = { results := [.lit (.bool true)], args := ds ++ [] } := hspec (ds ++ []) (by simpa using hlen)
  refine ⟨_, rfl, ds, [], _, [], p, [], hW', ?_, ?_, ?_, bel.frame _, fun h => by cases h⟩
  · rw [hsp, hres]
    exact trodAll_mk1 (shut_bool hb _)
  · rw [hsp]
    simp only [List.append_nil]
    exact trodAll_below hl bel hread hA
  · have hv2 : ((Rows.OpenSpec.upto s).at F).vars = [] := hvars
    rw [hv2, hsp]
    rfl


end Go.Proofs.Ytendheafcbickaa.U

/-
  THE STRUCTS OF PACKAGE api: what is known of them within the bound of the second form. Written by a program (mku.py).
-/
set_option linter.unusedVariables false
namespace Go.Proofs.Ytendheafcbickaa.U
open Go.RowKit

def wfRange (x : DRange) : Prop := I64 x.Lo ∧ I64 x.Hi
def wfFlow (x : DFlow) : Prop := I64 x.Max ∧ I64 x.Used
def wfPace (x : DPace) : Prop := I64 x.Window ∧ I64 x.Thresh ∧ I64 x.Flying ∧ I64 x.Since
def wfTally (x : DTally) : Prop := I64 x.Got ∧ I64 x.Sent
def wfField (x : DField) : Prop := x.Name.length ≤ 1048576 ∧ x.Value.length ≤ 1048576
def wfPiece (x : DPiece) : Prop := I64 x.Off ∧ x.Data.length * 1 ≤ 1048576
theorem wf_lePiece (x : DPiece) (h : wfPiece x) : Proofs.Ytendheafcbickaa.wfPiece x := by
  unfold wfPiece at h
  unfold Proofs.Ytendheafcbickaa.wfPiece
  obtain ⟨h0, h1⟩ := h
  exact ⟨h0, (by have := h1; omega)⟩

def wfGather (x : DGather) : Prop := I64 x.Done ∧ x.Held.length * 32 ≤ 33554432 ∧ (∀ y, y ∈ x.Held → wfPiece y) ∧ I64 x.Final ∧ I64 x.Window
theorem wf_leGather (x : DGather) (h : wfGather x) : Proofs.Ytendheafcbickaa.wfGather x := by
  unfold wfGather at h
  unfold Proofs.Ytendheafcbickaa.wfGather
  obtain ⟨h0, h1, h2, h3, h4⟩ := h
  exact ⟨h0, (by have := h1; omega), (fun y hy => wf_lePiece y (h2 y hy)), h3, h4⟩

def wfSender (x : DSender) : Prop := x.Data.length * 1 ≤ 1048576 ∧ I64 x.Next ∧ I64 x.Max ∧ x.Lost.length * 16 ≤ 16777216 ∧ (∀ y, y ∈ x.Lost → wfRange y) ∧ x.Acked.length * 16 ≤ 16777216 ∧ (∀ y, y ∈ x.Acked → wfRange y)
def wfFrame (x : DFrame) : Prop := I64 x.Kind ∧ I64 x.Id ∧ I64 x.Off ∧ I64 x.Code ∧ x.Ranges.length * 16 ≤ 16777216 ∧ (∀ y, y ∈ x.Ranges → wfRange y) ∧ x.Data.length * 1 ≤ 1048576
def wfHead (x : DHead) : Prop := I64 x.Kind ∧ I64 x.To ∧ I64 x.From ∧ x.Token.length * 1 ≤ 1048576 ∧ I64 x.Number ∧ I64 x.Size
def wfParcel (x : DParcel) : Prop := I64 x.Number ∧ I64 x.Time ∧ I64 x.Size ∧ x.Frames.length * 88 ≤ 92274688 ∧ (∀ y, y ∈ x.Frames → wfFrame y)
def wfSpace (x : DSpace) : Prop := I64 x.Next ∧ x.Sent.length * 48 ≤ 50331648 ∧ (∀ y, y ∈ x.Sent → wfParcel y) ∧ I64 x.Top ∧ x.Heard.length * 16 ≤ 16777216 ∧ (∀ y, y ∈ x.Heard → wfRange y) ∧ x.Skip.length * 8 ≤ 8388608 ∧ (∀ y, y ∈ x.Skip → I64 y)
def wfTable (x : DTable) : Prop := I64 x.Room ∧ I64 x.Put ∧ x.Rows.length * 32 ≤ 33554432 ∧ (∀ y, y ∈ x.Rows → wfField y)
def wfRequest (x : DRequest) : Prop := x.Fields.length * 32 ≤ 33554432 ∧ (∀ y, y ∈ x.Fields → wfField y) ∧ x.Body.length * 1 ≤ 1048576
def wfReader (x : DReader) : Prop := x.Held.length * 1 ≤ 1048576 ∧ x.Fields.length * 32 ≤ 33554432 ∧ (∀ y, y ∈ x.Fields → wfField y) ∧ x.Body.length * 1 ≤ 1048576
def wfLane (x : DLane) : Prop := I64 x.Id ∧ wfGather x.In ∧ x.Read.length * 1 ≤ 1048576 ∧ wfSender x.Out
def wfConn (x : DConn) : Prop := wfSpace x.Space ∧ wfPace x.Pace ∧ wfFlow x.Flow ∧ wfFlow x.Credit ∧ I64 x.Ids ∧ I64 x.Grant ∧ I64 x.Opened ∧ x.Lanes.length * 192 ≤ 201326592 ∧ (∀ y, y ∈ x.Lanes → wfLane y) ∧ x.Queue.length * 88 ≤ 92274688 ∧ (∀ y, y ∈ x.Queue → wfFrame y) ∧ I64 x.Last ∧ I64 x.Resets ∧ I64 x.Code
def wfNote (x : DNote) : Prop := I64 x.Id ∧ I64 x.From ∧ I64 x.Peer ∧ U64 x.Key ∧ wfConn x.Conn
def wfGate (x : DGate) : Prop := U64 x.Secret ∧ I64 x.Now ∧ I64 x.Next ∧ x.Notes.length * 312 ≤ 327155712 ∧ (∀ y, y ∈ x.Notes → wfNote y) ∧ wfTally x.Tally0 ∧ wfTally x.Tally1 ∧ wfTally x.Tally2 ∧ wfTally x.Tally3 ∧ I64 x.Shed
def wfMail (x : DMail) : Prop := I64 x.Peer ∧ x.Data.length * 1 ≤ 1048576
def wfClient (x : DClient) : Prop := I64 x.Peer ∧ I64 x.Id ∧ U64 x.Word ∧ x.Token.length * 1 ≤ 1048576 ∧ I64 x.To ∧ U64 x.Key ∧ wfConn x.Conn
def wfAct (x : DAct) : Prop := I64 x.Kind ∧ I64 x.Peer ∧ I64 x.At ∧ I64 x.N ∧ U64 x.Word ∧ x.Data.length * 1 ≤ 1048576
def wfLetter (x : DLetter) : Prop := wfMail x.Mail
def wfWorld (x : DWorld) : Prop := wfGate x.Gate ∧ x.Clients.length * 336 ≤ 352321536 ∧ (∀ y, y ∈ x.Clients → wfClient y) ∧ x.Way.length * 40 ≤ 41943040 ∧ (∀ y, y ∈ x.Way → wfLetter y) ∧ I64 x.Now
end Go.Proofs.Ytendheafcbickaa.U

/-
  WITHIN THE BOUND OF THE SECOND FORM: written by a program (mku.py).
-/

set_option linter.unusedVariables false
set_option linter.unusedSimpArgs false
set_option linter.unusedVariables false
namespace Go.Proofs.Ytendheafcbickaa.U
open Go.ChangeShapes Go.WideShapes Go.ChangeAt Go.RowKit Go.Deep

theorem rdB_of_cells {P : Program} {W : World} {t : TypeId} {S : Nat → Prop} (hu : P.underlying t = some (.int .u8)) (es : List Value) (h : Cells P W t es) : ∃ x, RdC S W (encB x) es ∧ True := by
  obtain ⟨n, rfl, hw⟩ := h.int_ hu
  have := bounds_u8 hw
  refine ⟨UInt8.ofNat n.toNat, rdc ?_ rd0, trivial⟩
  have e : ((UInt8.ofNat n.toNat).toNat : Int) = n := by
    rw [UInt8.toNat_ofNat']; omega
  rw [e]; exact .lit _ rfl
theorem rd_of_slice {α : Type} {P : Program} {W : World} {t e : TypeId} {v : Value} {enc : α → List V} {wf : α → Prop} {size bytes : Nat}
    (hu : P.underlying t = some (.slice e)) (hs : P.cellsOf e = size) (hb : P.bytesOf e = bytes) (hpos : 0 < size)
    (hR : ∀ es, Cells P W e es → ∃ x, RdC (fun b => b < W.heap.size) W (enc x) es ∧ wf x) (h : Cells P W t [v]) :
    ∃ l : List α, PRel (fun b => b < W.heap.size) W (.ro (l.map enc)) v ∧ l.length * bytes ≤ bytes * 1048576 ∧ ∀ y, y ∈ l → wf y := by
  rcases h.slice_ hu with h0 | ⟨a, len, cap, hv, hl, hmax, hc, he⟩
  · injection h0 with h0 _
    subst h0
    exact ⟨[], .ro [] none 0 1 0 0 (fun _ _ => undef) (Nat.le_refl _) (by unfold maxLen; omega) (by omega) (fun h => by simp at h) (fun i hi => by simp at hi) (fun i j hi => by simp at hi) (fun i j hi => by simp at hi), by simp, fun y hy => by simp at hy⟩
  · injection hv with hv _
    subst hv
    rw [hs] at he
    have hx : ∀ i, i < len → ∃ x es, es.length = size ∧ (∀ j, j < size → W.cell? ((a.add (i * size)).add j) = es[j]?) ∧ RdC (fun b => b < W.heap.size) W (enc x) es ∧ wf x := fun i hi => by
      obtain ⟨es, h1, h2, h3⟩ := he i (by omega)
      obtain ⟨x, hx, hw⟩ := hR es h3
      exact ⟨x, es, h1, h2, hx, hw⟩
    have hl' : ∃ l : List α, l.length = len ∧ (∀ i (h : i < l.length), ∃ es, es.length = size ∧ (∀ j, j < size → W.cell? ((a.add (i * size)).add j) = es[j]?) ∧ RdC (fun b => b < W.heap.size) W (enc l[i]) es) ∧ ∀ y, y ∈ l → wf y := by
      clear hl hc he h
      induction len with
      | zero => exact ⟨[], rfl, fun i hi => by simp at hi, fun y hy => by simp at hy⟩
      | succ n ih =>
        obtain ⟨l, hl, hl2, hl3⟩ := ih (fun i hi => hx i (by omega))
        obtain ⟨x, es, h1, h2, h3, h4⟩ := hx n (by omega)
        refine ⟨l ++ [x], by simp [hl], fun i hi => ?_, fun y hy => ?_⟩
        · simp at hi
          by_cases hin : i < l.length
          · rw [List.getElem_append_left hin]
            exact hl2 i hin
          · have : i = n := by omega
            subst this
            refine ⟨es, h1, h2, ?_⟩
            rw [List.getElem_append_right (by omega)]
            simpa [hl] using h3
        · simp at hy
          rcases hy with hy | rfl
          · exact hl3 y hy
          · exact h4
    obtain ⟨l, hll, hl2, hl3⟩ := hl'
    subst hll
    have hlb : l.length * bytes ≤ bytes * 1048576 := by rw [Nat.mul_comm bytes]; exact Nat.mul_le_mul_right _ (Nat.le_trans hl hc)
    refine ⟨l, ?_, hlb, hl3⟩
    by_cases h0 : 0 < l.length
    · obtain ⟨es0, g1, g2, _⟩ := hl2 0 h0
      have hsp : a.spot = none := by
        have g := g2 0 hpos
        rw [List.getElem?_eq_getElem (by omega)] at g
        have := World.cell?_spot g
        simpa [Addr.add] using this
      obtain ⟨b, off, spot⟩ := a
      simp only at hsp
      subst hsp
      simp only [add_addr] at hl2 g2
      have hlt : b < W.heap.size := by
        have g := g2 0 hpos
        rw [List.getElem?_eq_getElem (by omega)] at g
        exact cell_lt g
      have hsz : ∀ i (h : i < l.length), (enc l[i]).length = size := fun i hi => by
        obtain ⟨es, q1, q2, q3⟩ := hl2 i hi
        rw [← q3.1, q1]
      have hmap : ∀ i (h : i < l.length), eAt (l.map enc) i = enc l[i] := fun i hi => by
        unfold eAt
        rw [List.getD_eq_getElem?_getD, List.getElem?_map, List.getElem?_eq_getElem hi]; rfl
      have : PRel (fun b => b < W.heap.size) W (.ro (l.map enc)) (.slice (some ⟨b, off, none⟩) (l.map enc).length cap) := by
        refine .ro _ _ cap size b off (fun i j => (W.cell? ⟨b, off + i * size + j, none⟩).getD undef) (by simpa using hl) hmax hpos (fun _ => ⟨rfl, hlt⟩) (fun i hi => ?_) (fun i j hi hj => ?_) (fun i j hi hj => ?_)
        · rw [List.length_map] at hi; rw [hmap i hi]; exact hsz i hi
        · rw [List.length_map] at hi
          obtain ⟨es, q1, q2, q3⟩ := hl2 i hi
          rw [q2 j hj, List.getElem?_eq_getElem (by omega)]; rfl
        · rw [List.length_map] at hi
          obtain ⟨es, q1, q2, q3⟩ := hl2 i hi
          rw [hmap i hi, q2 j hj]
          have := q3.2 j (by rw [hsz i hi]; exact hj)
          rwa [List.getD_eq_getElem?_getD] at this
      rwa [List.length_map] at this
    · have hn : l = [] := List.eq_nil_of_length_eq_zero (by omega)
      subst hn
      exact .ro [] (some a) cap 1 0 0 (fun _ _ => undef) (by simp) hmax (by omega) (fun h => by simp at h) (fun i hi => by simp at hi) (fun i j hi => by simp at hi) (fun i j hi => by simp at hi)

end Go.Proofs.Ytendheafcbickaa.U
