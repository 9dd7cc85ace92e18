
import Derived.Test.YtendheafcbickaaGreatHAbsB
set_option linter.unusedSimpArgs false
set_option linter.unusedVariables false
namespace Go.Proofs.YtendheafcbickaaGreat
open Go.RowKit
def I64 (x:Int):Prop:=-9223372036854775808≤x∧x≤9223372036854775807
def U64 (x:Int):Prop:=0≤x∧x≤18446744073709551615
def encI (n:Int):List V:=[.lit (.int .i64 n)]
def encS (l:List UInt8):List V:=[.ro (l.map encB)]
structure DRange where
  Lo:Int
  Hi:Int
instance:Inhabited DRange:=⟨⟨0,0⟩⟩
theorem ext_Range {a b:DRange} (h0:a.Lo=b.Lo) (h1:a.Hi=b.Hi):a=b:=by
  cases a;cases b;dsimp only at *;subst_vars;rfl
def encRange (x:DRange):List V:=[.lit (.int .i64 x.Lo),.lit (.int .i64 x.Hi)]
def wfRange (x:DRange):Prop:=I64 x.Lo∧I64 x.Hi
structure DFlow where
  Max:Int
  Used:Int
instance:Inhabited DFlow:=⟨⟨0,0⟩⟩
def encFlow (x:DFlow):List V:=[.lit (.int .i64 x.Max),.lit (.int .i64 x.Used)]
def wfFlow (x:DFlow):Prop:=I64 x.Max∧I64 x.Used
structure DPace where
  Window:Int
  Thresh:Int
  Flying:Int
  Since:Int
instance:Inhabited DPace:=⟨⟨0,0,0,0⟩⟩
def encPace (x:DPace):List V:=[.lit (.int .i64 x.Window),.lit (.int .i64 x.Thresh),.lit (.int .i64 x.Flying),.lit (.int .i64 x.Since)]
def wfPace (x:DPace):Prop:=I64 x.Window∧I64 x.Thresh∧I64 x.Flying∧I64 x.Since
structure DTally where
  Known:Bool
  Got:Int
  Sent:Int
instance:Inhabited DTally:=⟨⟨false,0,0⟩⟩
def encTally (x:DTally):List V:=[.lit (.bool x.Known),.lit (.int .i64 x.Got),.lit (.int .i64 x.Sent)]
def wfTally (x:DTally):Prop:=I64 x.Got∧I64 x.Sent
structure DField where
  Name:List UInt8
  Value:List UInt8
instance:Inhabited DField:=⟨⟨[],[]⟩⟩
def encField (x:DField):List V:=[.lit (.string (strB x.Name)),.lit (.string (strB x.Value))]
def wfField (x:DField):Prop:=x.Name.length≤140737488351232∧x.Value.length≤140737488351232
structure DPiece where
  Off:Int
  Data:List UInt8
instance:Inhabited DPiece:=⟨⟨0,[]⟩⟩
theorem ext_Piece {a b:DPiece} (h0:a.Off=b.Off) (h1:a.Data=b.Data):a=b:=by
  cases a;cases b;dsimp only at *;subst_vars;rfl
def encPiece (x:DPiece):List V:=[.lit (.int .i64 x.Off),.ro (x.Data.map encB)]
def wfPiece (x:DPiece):Prop:=I64 x.Off∧x.Data.length * 1≤140737488351232
structure DGather where
  Done:Int
  Held:List DPiece
  Final:Int
  Window:Int
instance:Inhabited DGather:=⟨⟨0,[],0,0⟩⟩
def encGather (x:DGather):List V:=[.lit (.int .i64 x.Done),.ro (x.Held.map encPiece),.lit (.int .i64 x.Final),.lit (.int .i64 x.Window)]
def wfGather (x:DGather):Prop:=I64 x.Done∧x.Held.length * 32≤140737488351232∧(∀ y,y ∈ x.Held→wfPiece y)∧I64 x.Final∧I64 x.Window
structure DSender where
  Data:List UInt8
  Fin:Bool
  Next:Int
  Max:Int
  Lost:List DRange
  Acked:List DRange
  Ended:Bool
  Over:Bool
instance:Inhabited DSender:=⟨⟨[],false,0,0,[],[],false,false⟩⟩
def encSender (x:DSender):List V:=[.ro (x.Data.map encB),.lit (.bool x.Fin),.lit (.int .i64 x.Next),.lit (.int .i64 x.Max),.ro (x.Lost.map encRange),.ro (x.Acked.map encRange),.lit (.bool x.Ended),.lit (.bool x.Over)]
def wfSender (x:DSender):Prop:=x.Data.length * 1≤140737488351232∧I64 x.Next∧I64 x.Max∧x.Lost.length * 16≤140737488351232∧(∀ y,y ∈ x.Lost→wfRange y)∧x.Acked.length * 16≤140737488351232∧(∀ y,y ∈ x.Acked→wfRange y)
structure DFrame where
  Kind:Int
  Id:Int
  Off:Int
  Fin:Bool
  Code:Int
  Ranges:List DRange
  Data:List UInt8
instance:Inhabited DFrame:=⟨⟨0,0,0,false,0,[],[]⟩⟩
theorem ext_Frame {a b:DFrame} (h0:a.Kind=b.Kind) (h1:a.Id=b.Id) (h2:a.Off=b.Off) (h3:a.Fin=b.Fin) (h4:a.Code=b.Code) (h5:a.Ranges=b.Ranges) (h6:a.Data=b.Data):a=b:=by
  cases a;cases b;dsimp only at *;subst_vars;rfl
def encFrame (x:DFrame):List V:=[.lit (.int .i64 x.Kind),.lit (.int .i64 x.Id),.lit (.int .i64 x.Off),.lit (.bool x.Fin),.lit (.int .i64 x.Code),.ro (x.Ranges.map encRange),.ro (x.Data.map encB)]
def wfFrame (x:DFrame):Prop:=I64 x.Kind∧I64 x.Id∧I64 x.Off∧I64 x.Code∧x.Ranges.length * 16≤140737488351232∧(∀ y,y ∈ x.Ranges→wfRange y)∧x.Data.length * 1≤140737488351232
structure DHead where
  Kind:Int
  To:Int
  From:Int
  Token:List UInt8
  Number:Int
  Size:Int
instance:Inhabited DHead:=⟨⟨0,0,0,[],0,0⟩⟩
def encHead (x:DHead):List V:=[.lit (.int .i64 x.Kind),.lit (.int .i64 x.To),.lit (.int .i64 x.From),.ro (x.Token.map encB),.lit (.int .i64 x.Number),.lit (.int .i64 x.Size)]
def wfHead (x:DHead):Prop:=I64 x.Kind∧I64 x.To∧I64 x.From∧x.Token.length * 1≤140737488351232∧I64 x.Number∧I64 x.Size
structure DParcel where
  Number:Int
  Time:Int
  Size:Int
  Frames:List DFrame
instance:Inhabited DParcel:=⟨⟨0,0,0,[]⟩⟩
theorem ext_Parcel {a b:DParcel} (h0:a.Number=b.Number) (h1:a.Time=b.Time) (h2:a.Size=b.Size) (h3:a.Frames=b.Frames):a=b:=by
  cases a;cases b;dsimp only at *;subst_vars;rfl
def encParcel (x:DParcel):List V:=[.lit (.int .i64 x.Number),.lit (.int .i64 x.Time),.lit (.int .i64 x.Size),.ro (x.Frames.map encFrame)]
def wfParcel (x:DParcel):Prop:=I64 x.Number∧I64 x.Time∧I64 x.Size∧x.Frames.length * 88≤140737488351232∧(∀ y,y ∈ x.Frames→wfFrame y)
structure DSpace where
  Next:Int
  Sent:List DParcel
  Top:Int
  Heard:List DRange
  Skip:List Int
instance:Inhabited DSpace:=⟨⟨0,[],0,[],[]⟩⟩
theorem ext_Space {a b:DSpace} (h0:a.Next=b.Next) (h1:a.Sent=b.Sent) (h2:a.Top=b.Top) (h3:a.Heard=b.Heard) (h4:a.Skip=b.Skip):a=b:=by
  cases a;cases b;dsimp only at *;subst_vars;rfl
def encSpace (x:DSpace):List V:=[.lit (.int .i64 x.Next),.ro (x.Sent.map encParcel),.lit (.int .i64 x.Top),.ro (x.Heard.map encRange),.ro (x.Skip.map encI)]
def wfSpace (x:DSpace):Prop:=I64 x.Next∧x.Sent.length * 48≤140737488351232∧(∀ y,y ∈ x.Sent→wfParcel y)∧I64 x.Top∧x.Heard.length * 16≤140737488351232∧(∀ y,y ∈ x.Heard→wfRange y)∧x.Skip.length * 8≤140737488351232∧(∀ y,y ∈ x.Skip→I64 y)
structure DTable where
  Room:Int
  Put:Int
  Rows:List DField
instance:Inhabited DTable:=⟨⟨0,0,[]⟩⟩
def encTable (x:DTable):List V:=[.lit (.int .i64 x.Room),.lit (.int .i64 x.Put),.ro (x.Rows.map encField)]
def wfTable (x:DTable):Prop:=I64 x.Room∧I64 x.Put∧x.Rows.length * 32≤140737488351232∧(∀ y,y ∈ x.Rows→wfField y)
structure DRequest where
  Fields:List DField
  Body:List UInt8
instance:Inhabited DRequest:=⟨⟨[],[]⟩⟩
def encRequest (x:DRequest):List V:=[.ro (x.Fields.map encField),.ro (x.Body.map encB)]
def wfRequest (x:DRequest):Prop:=x.Fields.length * 32≤140737488351232∧(∀ y,y ∈ x.Fields→wfField y)∧x.Body.length * 1≤140737488351232
structure DReader where
  Held:List UInt8
  Fields:List DField
  Begun:Bool
  Body:List UInt8
  Ended:Bool
instance:Inhabited DReader:=⟨⟨[],[],false,[],false⟩⟩
def encReader (x:DReader):List V:=[.ro (x.Held.map encB),.ro (x.Fields.map encField),.lit (.bool x.Begun),.ro (x.Body.map encB),.lit (.bool x.Ended)]
def wfReader (x:DReader):Prop:=x.Held.length * 1≤140737488351232∧x.Fields.length * 32≤140737488351232∧(∀ y,y ∈ x.Fields→wfField y)∧x.Body.length * 1≤140737488351232
structure DLane where
  Id:Int
  In:DGather
  Read:List UInt8
  Over:Bool
  Cut:Bool
  Out:DSender
instance:Inhabited DLane:=⟨⟨0,default,[],false,false,default⟩⟩
def encLane (x:DLane):List V:=[.lit (.int .i64 x.Id),.lit (.int .i64 x.In.Done),.ro (x.In.Held.map encPiece),.lit (.int .i64 x.In.Final),.lit (.int .i64 x.In.Window),.ro (x.Read.map encB),.lit (.bool x.Over),.lit (.bool x.Cut),.ro (x.Out.Data.map encB),.lit (.bool x.Out.Fin),.lit (.int .i64 x.Out.Next),.lit (.int .i64 x.Out.Max),.ro (x.Out.Lost.map encRange),.ro (x.Out.Acked.map encRange),.lit (.bool x.Out.Ended),.lit (.bool x.Out.Over)]
def wfLane (x:DLane):Prop:=I64 x.Id∧wfGather x.In∧x.Read.length * 1≤140737488351232∧wfSender x.Out
structure DConn where
  Client:Bool
  Space:DSpace
  Pace:DPace
  Flow:DFlow
  Credit:DFlow
  Ids:Int
  Grant:Int
  Opened:Int
  Lanes:List DLane
  Owes:Bool
  Queue:List DFrame
  Last:Int
  Resets:Int
  Closed:Bool
  Code:Int
instance:Inhabited DConn:=⟨⟨false,default,default,default,default,0,0,0,[],false,[],0,0,false,0⟩⟩
def encConn (x:DConn):List V:=[.lit (.bool x.Client),.lit (.int .i64 x.Space.Next),.ro (x.Space.Sent.map encParcel),.lit (.int .i64 x.Space.Top),.ro (x.Space.Heard.map encRange),.ro (x.Space.Skip.map encI),.lit (.int .i64 x.Pace.Window),.lit (.int .i64 x.Pace.Thresh),.lit (.int .i64 x.Pace.Flying),.lit (.int .i64 x.Pace.Since),.lit (.int .i64 x.Flow.Max),.lit (.int .i64 x.Flow.Used),.lit (.int .i64 x.Credit.Max),.lit (.int .i64 x.Credit.Used),.lit (.int .i64 x.Ids),.lit (.int .i64 x.Grant),.lit (.int .i64 x.Opened),.ro (x.Lanes.map encLane),.lit (.bool x.Owes),.ro (x.Queue.map encFrame),.lit (.int .i64 x.Last),.lit (.int .i64 x.Resets),.lit (.bool x.Closed),.lit (.int .i64 x.Code)]
def wfConn (x:DConn):Prop:=wfSpace x.Space∧wfPace x.Pace∧wfFlow x.Flow∧wfFlow x.Credit∧I64 x.Ids∧I64 x.Grant∧I64 x.Opened∧x.Lanes.length * 192≤140737488351232∧(∀ y,y ∈ x.Lanes→wfLane y)∧x.Queue.length * 88≤140737488351232∧(∀ y,y ∈ x.Queue→wfFrame y)∧I64 x.Last∧I64 x.Resets∧I64 x.Code
structure DNote where
  Id:Int
  From:Int
  Peer:Int
  Key:Int
  Ready:Bool
  Conn:DConn
instance:Inhabited DNote:=⟨⟨0,0,0,0,false,default⟩⟩
def encNote (x:DNote):List V:=[.lit (.int .i64 x.Id),.lit (.int .i64 x.From),.lit (.int .i64 x.Peer),.lit (.int .u64 x.Key),.lit (.bool x.Ready),.lit (.bool x.Conn.Client),.lit (.int .i64 x.Conn.Space.Next),.ro (x.Conn.Space.Sent.map encParcel),.lit (.int .i64 x.Conn.Space.Top),.ro (x.Conn.Space.Heard.map encRange),.ro (x.Conn.Space.Skip.map encI),.lit (.int .i64 x.Conn.Pace.Window),.lit (.int .i64 x.Conn.Pace.Thresh),.lit (.int .i64 x.Conn.Pace.Flying),.lit (.int .i64 x.Conn.Pace.Since),.lit (.int .i64 x.Conn.Flow.Max),.lit (.int .i64 x.Conn.Flow.Used),.lit (.int .i64 x.Conn.Credit.Max),.lit (.int .i64 x.Conn.Credit.Used),.lit (.int .i64 x.Conn.Ids),.lit (.int .i64 x.Conn.Grant),.lit (.int .i64 x.Conn.Opened),.ro (x.Conn.Lanes.map encLane),.lit (.bool x.Conn.Owes),.ro (x.Conn.Queue.map encFrame),.lit (.int .i64 x.Conn.Last),.lit (.int .i64 x.Conn.Resets),.lit (.bool x.Conn.Closed),.lit (.int .i64 x.Conn.Code)]
def wfNote (x:DNote):Prop:=I64 x.Id∧I64 x.From∧I64 x.Peer∧U64 x.Key∧wfConn x.Conn
structure DGate where
  Secret:Int
  Now:Int
  Next:Int
  Notes:List DNote
  Tally0:DTally
  Tally1:DTally
  Tally2:DTally
  Tally3:DTally
  Retry:Bool
  Shed:Int
instance:Inhabited DGate:=⟨⟨0,0,0,[],default,default,default,default,false,0⟩⟩
def encGate (x:DGate):List V:=[.lit (.int .u64 x.Secret),.lit (.int .i64 x.Now),.lit (.int .i64 x.Next),.ro (x.Notes.map encNote),.lit (.bool x.Tally0.Known),.lit (.int .i64 x.Tally0.Got),.lit (.int .i64 x.Tally0.Sent),.lit (.bool x.Tally1.Known),.lit (.int .i64 x.Tally1.Got),.lit (.int .i64 x.Tally1.Sent),.lit (.bool x.Tally2.Known),.lit (.int .i64 x.Tally2.Got),.lit (.int .i64 x.Tally2.Sent),.lit (.bool x.Tally3.Known),.lit (.int .i64 x.Tally3.Got),.lit (.int .i64 x.Tally3.Sent),.lit (.bool x.Retry),.lit (.int .i64 x.Shed)]
def wfGate (x:DGate):Prop:=U64 x.Secret∧I64 x.Now∧I64 x.Next∧x.Notes.length * 312≤140737488351232∧(∀ y,y ∈ x.Notes→wfNote y)∧wfTally x.Tally0∧wfTally x.Tally1∧wfTally x.Tally2∧wfTally x.Tally3∧I64 x.Shed
structure DMail where
  Peer:Int
  Data:List UInt8
instance:Inhabited DMail:=⟨⟨0,[]⟩⟩
def encMail (x:DMail):List V:=[.lit (.int .i64 x.Peer),.ro (x.Data.map encB)]
def wfMail (x:DMail):Prop:=I64 x.Peer∧x.Data.length * 1≤140737488351232
structure DClient where
  Peer:Int
  Id:Int
  Word:Int
  Token:List UInt8
  To:Int
  Key:Int
  Conn:DConn
instance:Inhabited DClient:=⟨⟨0,0,0,[],0,0,default⟩⟩
def encClient (x:DClient):List V:=[.lit (.int .i64 x.Peer),.lit (.int .i64 x.Id),.lit (.int .u64 x.Word),.ro (x.Token.map encB),.lit (.int .i64 x.To),.lit (.int .u64 x.Key),.lit (.bool x.Conn.Client),.lit (.int .i64 x.Conn.Space.Next),.ro (x.Conn.Space.Sent.map encParcel),.lit (.int .i64 x.Conn.Space.Top),.ro (x.Conn.Space.Heard.map encRange),.ro (x.Conn.Space.Skip.map encI),.lit (.int .i64 x.Conn.Pace.Window),.lit (.int .i64 x.Conn.Pace.Thresh),.lit (.int .i64 x.Conn.Pace.Flying),.lit (.int .i64 x.Conn.Pace.Since),.lit (.int .i64 x.Conn.Flow.Max),.lit (.int .i64 x.Conn.Flow.Used),.lit (.int .i64 x.Conn.Credit.Max),.lit (.int .i64 x.Conn.Credit.Used),.lit (.int .i64 x.Conn.Ids),.lit (.int .i64 x.Conn.Grant),.lit (.int .i64 x.Conn.Opened),.ro (x.Conn.Lanes.map encLane),.lit (.bool x.Conn.Owes),.ro (x.Conn.Queue.map encFrame),.lit (.int .i64 x.Conn.Last),.lit (.int .i64 x.Conn.Resets),.lit (.bool x.Conn.Closed),.lit (.int .i64 x.Conn.Code)]
def wfClient (x:DClient):Prop:=I64 x.Peer∧I64 x.Id∧U64 x.Word∧x.Token.length * 1≤140737488351232∧I64 x.To∧U64 x.Key∧wfConn x.Conn
structure DAct where
  Kind:Int
  Peer:Int
  At:Int
  N:Int
  Word:Int
  Data:List UInt8
instance:Inhabited DAct:=⟨⟨0,0,0,0,0,[]⟩⟩
def encAct (x:DAct):List V:=[.lit (.int .i64 x.Kind),.lit (.int .i64 x.Peer),.lit (.int .i64 x.At),.lit (.int .i64 x.N),.lit (.int .u64 x.Word),.ro (x.Data.map encB)]
def wfAct (x:DAct):Prop:=I64 x.Kind∧I64 x.Peer∧I64 x.At∧I64 x.N∧U64 x.Word∧x.Data.length * 1≤140737488351232
structure DLetter where
  Up:Bool
  Mail:DMail
instance:Inhabited DLetter:=⟨⟨false,default⟩⟩
def encLetter (x:DLetter):List V:=[.lit (.bool x.Up),.lit (.int .i64 x.Mail.Peer),.ro (x.Mail.Data.map encB)]
def wfLetter (x:DLetter):Prop:=wfMail x.Mail
structure DWorld where
  Gate:DGate
  Clients:List DClient
  Way:List DLetter
  Now:Int
instance:Inhabited DWorld:=⟨⟨default,[],[],0⟩⟩
def encWorld (x:DWorld):List V:=[.lit (.int .u64 x.Gate.Secret),.lit (.int .i64 x.Gate.Now),.lit (.int .i64 x.Gate.Next),.ro (x.Gate.Notes.map encNote),.lit (.bool x.Gate.Tally0.Known),.lit (.int .i64 x.Gate.Tally0.Got),.lit (.int .i64 x.Gate.Tally0.Sent),.lit (.bool x.Gate.Tally1.Known),.lit (.int .i64 x.Gate.Tally1.Got),.lit (.int .i64 x.Gate.Tally1.Sent),.lit (.bool x.Gate.Tally2.Known),.lit (.int .i64 x.Gate.Tally2.Got),.lit (.int .i64 x.Gate.Tally2.Sent),.lit (.bool x.Gate.Tally3.Known),.lit (.int .i64 x.Gate.Tally3.Got),.lit (.int .i64 x.Gate.Tally3.Sent),.lit (.bool x.Gate.Retry),.lit (.int .i64 x.Gate.Shed),.ro (x.Clients.map encClient),.ro (x.Way.map encLetter),.lit (.int .i64 x.Now)]
def wfWorld (x:DWorld):Prop:=wfGate x.Gate∧x.Clients.length * 336≤140737488351232∧(∀ y,y ∈ x.Clients→wfClient y)∧x.Way.length * 40≤140737488351232∧(∀ y,y ∈ x.Way→wfLetter y)∧I64 x.Now
end Go.Proofs.YtendheafcbickaaGreat
