/-
  SEVERAL TEXTS IN ONE: each with its own comment.
-/
import Derived.Test.YtendheafcbickaaGreatHEnc
import Derived.Test.YtendheafcbickaaGreatHZip
import Derived.Test.YtendheafcbickaaGreatHGo
import Derived.Test.YtendheafcbickaaGreatHMg09
import Derived.Test.YtendheafcbickaaGreatHMg12

set_option linter.unusedVariables false
namespace Go.Proofs.YtendheafcbickaaGreat.U
open Go.RowKit
def wfRange (x:DRange):Prop:=I64 x.Lo∧I64 x.Hi
theorem wf_leRange (x:DRange) (h:wfRange x):Proofs.YtendheafcbickaaGreat.wfRange x:=by
  unfold wfRange at h
  unfold Proofs.YtendheafcbickaaGreat.wfRange
  obtain ⟨h0,h1⟩:=h
  exact ⟨h0,h1⟩
def wfFlow (x:DFlow):Prop:=I64 x.Max∧I64 x.Used
theorem wf_leFlow (x:DFlow) (h:wfFlow x):Proofs.YtendheafcbickaaGreat.wfFlow x:=by
  unfold wfFlow at h
  unfold Proofs.YtendheafcbickaaGreat.wfFlow
  obtain ⟨h0,h1⟩:=h
  exact ⟨h0,h1⟩
def wfPace (x:DPace):Prop:=I64 x.Window∧I64 x.Thresh∧I64 x.Flying∧I64 x.Since
theorem wf_lePace (x:DPace) (h:wfPace x):Proofs.YtendheafcbickaaGreat.wfPace x:=by
  unfold wfPace at h
  unfold Proofs.YtendheafcbickaaGreat.wfPace
  obtain ⟨h0,h1,h2,h3⟩:=h
  exact ⟨h0,h1,h2,h3⟩
def wfTally (x:DTally):Prop:=I64 x.Got∧I64 x.Sent
theorem wf_leTally (x:DTally) (h:wfTally x):Proofs.YtendheafcbickaaGreat.wfTally x:=by
  unfold wfTally at h
  unfold Proofs.YtendheafcbickaaGreat.wfTally
  obtain ⟨h0,h1⟩:=h
  exact ⟨h0,h1⟩
def wfField (x:DField):Prop:=x.Name.length≤1048576∧x.Value.length≤1048576
def wfPiece (x:DPiece):Prop:=I64 x.Off∧x.Data.length * 1≤1048576
theorem wf_lePiece (x:DPiece) (h:wfPiece x):Proofs.YtendheafcbickaaGreat.wfPiece x:=by
  unfold wfPiece at h
  unfold Proofs.YtendheafcbickaaGreat.wfPiece
  obtain ⟨h0,h1⟩:=h
  exact ⟨h0,(by have:=h1;omega)⟩
def wfGather (x:DGather):Prop:=I64 x.Done∧x.Held.length * 32≤33554432∧(∀ y,y ∈ x.Held→wfPiece y)∧I64 x.Final∧I64 x.Window
theorem wf_leGather (x:DGather) (h:wfGather x):Proofs.YtendheafcbickaaGreat.wfGather x:=by
  unfold wfGather at h
  unfold Proofs.YtendheafcbickaaGreat.wfGather
  obtain ⟨h0,h1,h2,h3,h4⟩:=h
  exact ⟨h0,(by have:=h1;omega),(fun y hy=>wf_lePiece y (h2 y hy)),h3,h4⟩
def wfSender (x:DSender):Prop:=x.Data.length * 1≤1048576∧I64 x.Next∧I64 x.Max∧x.Lost.length * 16≤16777216∧(∀ y,y ∈ x.Lost→wfRange y)∧x.Acked.length * 16≤16777216∧(∀ y,y ∈ x.Acked→wfRange y)
theorem wf_leSender (x:DSender) (h:wfSender x):Proofs.YtendheafcbickaaGreat.wfSender x:=by
  unfold wfSender at h
  unfold Proofs.YtendheafcbickaaGreat.wfSender
  obtain ⟨h0,h1,h2,h3,h4,h5,h6⟩:=h
  exact ⟨(by have:=h0;omega),h1,h2,(by have:=h3;omega),(fun y hy=>wf_leRange y (h4 y hy)),(by have:=h5;omega),(fun y hy=>wf_leRange y (h6 y hy))⟩
def wfFrame (x:DFrame):Prop:=I64 x.Kind∧I64 x.Id∧I64 x.Off∧I64 x.Code∧x.Ranges.length * 16≤16777216∧(∀ y,y ∈ x.Ranges→wfRange y)∧x.Data.length * 1≤1048576
theorem wf_leFrame (x:DFrame) (h:wfFrame x):Proofs.YtendheafcbickaaGreat.wfFrame x:=by
  unfold wfFrame at h
  unfold Proofs.YtendheafcbickaaGreat.wfFrame
  obtain ⟨h0,h1,h2,h3,h4,h5,h6⟩:=h
  exact ⟨h0,h1,h2,h3,(by have:=h4;omega),(fun y hy=>wf_leRange y (h5 y hy)),(by have:=h6;omega)⟩
def wfHead (x:DHead):Prop:=I64 x.Kind∧I64 x.To∧I64 x.From∧x.Token.length * 1≤1048576∧I64 x.Number∧I64 x.Size
def wfParcel (x:DParcel):Prop:=I64 x.Number∧I64 x.Time∧I64 x.Size∧x.Frames.length * 88≤92274688∧(∀ y,y ∈ x.Frames→wfFrame y)
theorem wf_leParcel (x:DParcel) (h:wfParcel x):Proofs.YtendheafcbickaaGreat.wfParcel x:=by
  unfold wfParcel at h
  unfold Proofs.YtendheafcbickaaGreat.wfParcel
  obtain ⟨h0,h1,h2,h3,h4⟩:=h
  exact ⟨h0,h1,h2,(by have:=h3;omega),(fun y hy=>wf_leFrame y (h4 y hy))⟩
def wfSpace (x:DSpace):Prop:=I64 x.Next∧x.Sent.length * 48≤50331648∧(∀ y,y ∈ x.Sent→wfParcel y)∧I64 x.Top∧x.Heard.length * 16≤16777216∧(∀ y,y ∈ x.Heard→wfRange y)∧x.Skip.length * 8≤8388608∧(∀ y,y ∈ x.Skip→I64 y)
theorem wf_leSpace (x:DSpace) (h:wfSpace x):Proofs.YtendheafcbickaaGreat.wfSpace x:=by
  unfold wfSpace at h
  unfold Proofs.YtendheafcbickaaGreat.wfSpace
  obtain ⟨h0,h1,h2,h3,h4,h5,h6,h7⟩:=h
  exact ⟨h0,(by have:=h1;omega),(fun y hy=>wf_leParcel y (h2 y hy)),h3,(by have:=h4;omega),(fun y hy=>wf_leRange y (h5 y hy)),(by have:=h6;omega),h7⟩
def wfTable (x:DTable):Prop:=I64 x.Room∧I64 x.Put∧x.Rows.length * 32≤33554432∧(∀ y,y ∈ x.Rows→wfField y)
def wfRequest (x:DRequest):Prop:=x.Fields.length * 32≤33554432∧(∀ y,y ∈ x.Fields→wfField y)∧x.Body.length * 1≤1048576
def wfReader (x:DReader):Prop:=x.Held.length * 1≤1048576∧x.Fields.length * 32≤33554432∧(∀ y,y ∈ x.Fields→wfField y)∧x.Body.length * 1≤1048576
def wfLane (x:DLane):Prop:=I64 x.Id∧wfGather x.In∧x.Read.length * 1≤1048576∧wfSender x.Out
theorem wf_leLane (x:DLane) (h:wfLane x):Proofs.YtendheafcbickaaGreat.wfLane x:=by
  unfold wfLane at h
  unfold Proofs.YtendheafcbickaaGreat.wfLane
  obtain ⟨h0,h1,h2,h3⟩:=h
  exact ⟨h0,(wf_leGather _ h1),(by have:=h2;omega),(wf_leSender _ h3)⟩
def wfConn (x:DConn):Prop:=wfSpace x.Space∧wfPace x.Pace∧wfFlow x.Flow∧wfFlow x.Credit∧I64 x.Ids∧I64 x.Grant∧I64 x.Opened∧x.Lanes.length * 192≤201326592∧(∀ y,y ∈ x.Lanes→wfLane y)∧x.Queue.length * 88≤92274688∧(∀ y,y ∈ x.Queue→wfFrame y)∧I64 x.Last∧I64 x.Resets∧I64 x.Code
theorem wf_leConn (x:DConn) (h:wfConn x):Proofs.YtendheafcbickaaGreat.wfConn x:=by
  unfold wfConn at h
  unfold Proofs.YtendheafcbickaaGreat.wfConn
  obtain ⟨h0,h1,h2,h3,h4,h5,h6,h7,h8,h9,h10,h11,h12,h13⟩:=h
  exact ⟨(wf_leSpace _ h0),(wf_lePace _ h1),(wf_leFlow _ h2),(wf_leFlow _ h3),h4,h5,h6,(by have:=h7;omega),(fun y hy=>wf_leLane y (h8 y hy)),(by have:=h9;omega),(fun y hy=>wf_leFrame y (h10 y hy)),h11,h12,h13⟩
def wfNote (x:DNote):Prop:=I64 x.Id∧I64 x.From∧I64 x.Peer∧U64 x.Key∧wfConn x.Conn
theorem wf_leNote (x:DNote) (h:wfNote x):Proofs.YtendheafcbickaaGreat.wfNote x:=by
  unfold wfNote at h
  unfold Proofs.YtendheafcbickaaGreat.wfNote
  obtain ⟨h0,h1,h2,h3,h4⟩:=h
  exact ⟨h0,h1,h2,h3,(wf_leConn _ h4)⟩
def wfGate (x:DGate):Prop:=U64 x.Secret∧I64 x.Now∧I64 x.Next∧x.Notes.length * 312≤327155712∧(∀ y,y ∈ x.Notes→wfNote y)∧wfTally x.Tally0∧wfTally x.Tally1∧wfTally x.Tally2∧wfTally x.Tally3∧I64 x.Shed
theorem wf_leGate (x:DGate) (h:wfGate x):Proofs.YtendheafcbickaaGreat.wfGate x:=by
  unfold wfGate at h
  unfold Proofs.YtendheafcbickaaGreat.wfGate
  obtain ⟨h0,h1,h2,h3,h4,h5,h6,h7,h8,h9⟩:=h
  exact ⟨h0,h1,h2,(by have:=h3;omega),(fun y hy=>wf_leNote y (h4 y hy)),(wf_leTally _ h5),(wf_leTally _ h6),(wf_leTally _ h7),(wf_leTally _ h8),h9⟩
def wfMail (x:DMail):Prop:=I64 x.Peer∧x.Data.length * 1≤1048576
def wfClient (x:DClient):Prop:=I64 x.Peer∧I64 x.Id∧U64 x.Word∧x.Token.length * 1≤1048576∧I64 x.To∧U64 x.Key∧wfConn x.Conn
def wfAct (x:DAct):Prop:=I64 x.Kind∧I64 x.Peer∧I64 x.At∧I64 x.N∧U64 x.Word∧x.Data.length * 1≤1048576
def wfLetter (x:DLetter):Prop:=wfMail x.Mail
def wfWorld (x:DWorld):Prop:=wfGate x.Gate∧x.Clients.length * 336≤352321536∧(∀ y,y ∈ x.Clients→wfClient y)∧x.Way.length * 40≤41943040∧(∀ y,y ∈ x.Way→wfLetter y)∧I64 x.Now
end Go.Proofs.YtendheafcbickaaGreat.U
namespace Go.Proofs.YtendheafcbickaaGreat.W
open Go.RowKit
def wfPiece (x:DPiece):Prop:=I64 x.Off∧x.Data.length * 1≤16777216
theorem wf_lePiece (x:DPiece) (h:W.wfPiece x):Proofs.YtendheafcbickaaGreat.wfPiece x:=by
  unfold W.wfPiece at h
  unfold Proofs.YtendheafcbickaaGreat.wfPiece
  obtain ⟨h0,h1⟩:=h
  exact ⟨h0,(by have:=h1;omega)⟩
theorem of_Piece (x:DPiece) (h:U.wfPiece x):W.wfPiece x:=by
  unfold U.wfPiece at h
  unfold W.wfPiece
  obtain ⟨h0,h1⟩:=h
  exact ⟨h0,(by have:=h1;omega)⟩
def wfGather (x:DGather):Prop:=I64 x.Done∧x.Held.length * 32≤33554432∧(∀ y,y ∈ x.Held→wfPiece y)∧I64 x.Final∧I64 x.Window
theorem wf_leGather (x:DGather) (h:W.wfGather x):Proofs.YtendheafcbickaaGreat.wfGather x:=by
  unfold W.wfGather at h
  unfold Proofs.YtendheafcbickaaGreat.wfGather
  obtain ⟨h0,h1,h2,h3,h4⟩:=h
  exact ⟨h0,(by have:=h1;omega),(fun y hy=>wf_lePiece y (h2 y hy)),h3,h4⟩
theorem of_Gather (x:DGather) (h:U.wfGather x):W.wfGather x:=by
  unfold U.wfGather at h
  unfold W.wfGather
  obtain ⟨h0,h1,h2,h3,h4⟩:=h
  exact ⟨h0,(by have:=h1;omega),(fun y hy=>of_Piece y (h2 y hy)),h3,h4⟩
def wfLane (x:DLane):Prop:=I64 x.Id∧wfGather x.In∧x.Read.length * 1≤1048576∧U.wfSender x.Out
theorem wf_leLane (x:DLane) (h:W.wfLane x):Proofs.YtendheafcbickaaGreat.wfLane x:=by
  unfold W.wfLane at h
  unfold Proofs.YtendheafcbickaaGreat.wfLane
  obtain ⟨h0,h1,h2,h3⟩:=h
  exact ⟨h0,(wf_leGather _ h1),(by have:=h2;omega),(U.wf_leSender _ h3)⟩
theorem of_Lane (x:DLane) (h:U.wfLane x):W.wfLane x:=by
  unfold U.wfLane at h
  unfold W.wfLane
  obtain ⟨h0,h1,h2,h3⟩:=h
  exact ⟨h0,(of_Gather _ h1),(by have:=h2;omega),(id h3)⟩
def wfConn (x:DConn):Prop:=U.wfSpace x.Space∧U.wfPace x.Pace∧U.wfFlow x.Flow∧U.wfFlow x.Credit∧I64 x.Ids∧I64 x.Grant∧I64 x.Opened∧x.Lanes.length * 192≤201326592∧(∀ y,y ∈ x.Lanes→wfLane y)∧x.Queue.length * 88≤92274688∧(∀ y,y ∈ x.Queue→U.wfFrame y)∧I64 x.Last∧I64 x.Resets∧I64 x.Code
theorem wf_leConn (x:DConn) (h:W.wfConn x):Proofs.YtendheafcbickaaGreat.wfConn x:=by
  unfold W.wfConn at h
  unfold Proofs.YtendheafcbickaaGreat.wfConn
  obtain ⟨h0,h1,h2,h3,h4,h5,h6,h7,h8,h9,h10,h11,h12,h13⟩:=h
  exact ⟨(U.wf_leSpace _ h0),(U.wf_lePace _ h1),(U.wf_leFlow _ h2),(U.wf_leFlow _ h3),h4,h5,h6,(by have:=h7;omega),(fun y hy=>wf_leLane y (h8 y hy)),(by have:=h9;omega),(fun y hy=>U.wf_leFrame _ (h10 y hy)),h11,h12,h13⟩
theorem of_Conn (x:DConn) (h:U.wfConn x):W.wfConn x:=by
  unfold U.wfConn at h
  unfold W.wfConn
  obtain ⟨h0,h1,h2,h3,h4,h5,h6,h7,h8,h9,h10,h11,h12,h13⟩:=h
  exact ⟨(id h0),(id h1),(id h2),(id h3),h4,h5,h6,(by have:=h7;omega),(fun y hy=>of_Lane y (h8 y hy)),(by have:=h9;omega),(fun y hy=>id (h10 y hy)),h11,h12,h13⟩
def wfNote (x:DNote):Prop:=I64 x.Id∧I64 x.From∧I64 x.Peer∧U64 x.Key∧wfConn x.Conn
theorem wf_leNote (x:DNote) (h:W.wfNote x):Proofs.YtendheafcbickaaGreat.wfNote x:=by
  unfold W.wfNote at h
  unfold Proofs.YtendheafcbickaaGreat.wfNote
  obtain ⟨h0,h1,h2,h3,h4⟩:=h
  exact ⟨h0,h1,h2,h3,(wf_leConn _ h4)⟩
theorem of_Note (x:DNote) (h:U.wfNote x):W.wfNote x:=by
  unfold U.wfNote at h
  unfold W.wfNote
  obtain ⟨h0,h1,h2,h3,h4⟩:=h
  exact ⟨h0,h1,h2,h3,(of_Conn _ h4)⟩
def wfGate (x:DGate):Prop:=U64 x.Secret∧I64 x.Now∧I64 x.Next∧x.Notes.length * 312≤327155712∧(∀ y,y ∈ x.Notes→wfNote y)∧U.wfTally x.Tally0∧U.wfTally x.Tally1∧U.wfTally x.Tally2∧U.wfTally x.Tally3∧I64 x.Shed
theorem wf_leGate (x:DGate) (h:W.wfGate x):Proofs.YtendheafcbickaaGreat.wfGate x:=by
  unfold W.wfGate at h
  unfold Proofs.YtendheafcbickaaGreat.wfGate
  obtain ⟨h0,h1,h2,h3,h4,h5,h6,h7,h8,h9⟩:=h
  exact ⟨h0,h1,h2,(by have:=h3;omega),(fun y hy=>wf_leNote y (h4 y hy)),(U.wf_leTally _ h5),(U.wf_leTally _ h6),(U.wf_leTally _ h7),(U.wf_leTally _ h8),h9⟩
theorem of_Gate (x:DGate) (h:U.wfGate x):W.wfGate x:=by
  unfold U.wfGate at h
  unfold W.wfGate
  obtain ⟨h0,h1,h2,h3,h4,h5,h6,h7,h8,h9⟩:=h
  exact ⟨h0,h1,h2,(by have:=h3;omega),(fun y hy=>of_Note y (h4 y hy)),(id h5),(id h6),(id h7),(id h8),h9⟩
def wfClient (x:DClient):Prop:=I64 x.Peer∧I64 x.Id∧U64 x.Word∧x.Token.length * 1≤1048576∧I64 x.To∧U64 x.Key∧wfConn x.Conn
end Go.Proofs.YtendheafcbickaaGreat.W


set_option linter.unusedVariables false
set_option linter.unusedSimpArgs false
set_option linter.unusedVariables false
namespace Go.Proofs.YtendheafcbickaaGreat
set_option maxRecDepth 100000
attribute [local irreducible] Run RunL QStep GStep Fn Less PL
theorem lastLow_iff {n:Int}:∀ {l:List DRange} {a:Int},rSet a l→(lastLow n l ↔ ∀ x ∈ l,x.Hi<n)
  | [],a,_=>⟨fun _ x hx=>(by cases hx),fun _ h=>absurd h (by simp)⟩
  | [x],a,_=>⟨fun h y hy=>(by rw [List.mem_singleton] at hy;subst hy;exact h (by simp)),fun h _=>h x (by simp)⟩
  | x :: y :: r,a,h=>by
    have ih:=lastLow_iff (n:=n) (l:=y :: r) h.2.2
    have hy:=rSet_good h.2.2 y (by simp)
    unfold rGood at hy
    have e:lastLow n (x :: y :: r) ↔ lastLow n (y :: r):=by
      unfold lastLow
      simp only [List.length_cons,Nat.add_sub_cancel,List.getD_cons_succ]
      exact ⟨fun q _=>q (by omega),fun q _=>q (by omega)⟩
    rw [e,ih]
    constructor
    · intro q z hz
      rcases List.mem_cons.1 hz with rfl|hz
      · have:=q y (by simp);omega
      · exact q z hz
    · intro q z hz
      exact q z (List.mem_cons_of_mem _ hz)
theorem allTo_memR {l:List DRange} {Q:DRange→Prop}:AllTo (fun i=>Q (l.getD i default)) l.length ↔ ∀ x ∈ l,Q x:=by
  constructor
  · intro h x hx
    obtain ⟨i,hi,rfl⟩:=List.getElem_of_mem hx
    have:=h i hi
    dsimp only at this
    rwa [List.getD_eq_getElem?_getD,List.getElem?_eq_getElem hi] at this
  · intro h i hi
    exact h _ (getD_mem hi)
theorem sndOk_iff (s:DSender):sndOk s ↔ (sndHead s∧AllTo (fun i=>((s.Lost++s.Acked).getD i default).Hi<s.Next) (s.Lost++s.Acked).length)∧apartL s.Lost s.Acked:=by
  have e:=allTo_memR (l:=s.Lost++s.Acked) (Q:=fun x=>x.Hi<s.Next)
  unfold sndOk
  constructor
  · rintro ⟨⟨⟨h1,h2⟩,h3⟩,h4⟩
    refine ⟨⟨h1,e.2 fun x hx=>?_⟩,h4⟩
    rcases List.mem_append.1 hx with hx|hx
    · exact (lastLow_iff (rFlt_set h1.2.2.2.2.2.1)).1 h2 x hx
    · exact (lastLow_iff (rFlt_set h1.2.2.2.2.2.2.1)).1 h3 x hx
  · rintro ⟨⟨h1,h2⟩,h4⟩
    have h2:=e.1 h2
    exact ⟨⟨⟨h1,(lastLow_iff (rFlt_set h1.2.2.2.2.2.1)).2 fun x hx=>h2 x (List.mem_append.2 (.inl hx))⟩,(lastLow_iff (rFlt_set h1.2.2.2.2.2.2.1)).2 fun x hx=>h2 x (List.mem_append.2 (.inr hx))⟩,h4⟩
def sndNum (s:DSender):Prop:=s.Data.length≤600∧0≤s.Next∧s.Next≤s.Data.length∧s.Next≤s.Max∧s.Max≤4611686018427387903∧rFlt s.Lost=0∧rFlt s.Acked=0
theorem sndHead_iff (s:DSender):sndHead s ↔ sndNum s∧sndFl s.Fin s.Ended s.Over=true∧((s.Ended || s.Over)=true→s.Next=s.Data.length):=by
  unfold sndHead sndNum
  constructor
  · rintro ⟨a,b,c,d,e,f,g,h,i⟩;exact ⟨⟨a,b,c,d,e,f,g⟩,h,i⟩
  · rintro ⟨⟨a,b,c,d,e,f,g⟩,h,i⟩;exact ⟨a,b,c,d,e,f,g,h,i⟩
set_option maxHeartbeats 4000000 in
theorem senderFault_fn (s:DSender) (hw:U.wfSender s):Fn Tryz.prog 141 [.agg (encSender s)] (.lit (.int .i64 (sndFlt s))):=by
  obtain ⟨w1,w2,w3,w4,w5,w6,w7⟩:=U.wf_leSender s hw
  have u4:=hw.2.2.2.1
  have u6:=hw.2.2.2.2.2.1
  clear hw
  unfold I64 at w2 w3
  have h1:=rangesFaultRef_fn s.Lost w5 (by omega)
  have h2:=rangesFaultRef_fn s.Acked w7 (by omega)
  have h3:=overlap_fn s.Lost s.Acked (by omega) (by omega)
  clear w5 w7
  refine fn_of_run (by kernel_rfl) Tryz.func141 rfl (by kernel_rfl) ?_
  refine r_seq ?_
  refine r_region ?_
  (repeat' first|(refine goS_ ?_;((repeat' first|exact True.intro|refine Two.mk ?_ ?_);all_goals intros))|fail "")
  refine thenQ_n ?_
  refine r_cut (fun ok:Bool=>⟨[(1,.ptr 0 0 0 0),(2,.lit (.int .i64 0)),(3,.lit (.bool ok))],[(0,some (.box 132 (encSender s)))],1,Tryz.f141.ntmps⟩) (fun ok=>ok=true ↔ sndNum s) ?_ ?_
  · unfold sndNum
    (repeat' first|(refine s_dec (upTo_fn _ _) (ht:=?_) (hff:=?_) <;> intro _ <;> try (exfalso;omega))|(refine p_dec (upTo_fn _ _) (ht:=?_) (hff:=?_) <;> intro _ <;> try (exfalso;omega))|(refine s_call (h1) (h:=?_))|(refine p_call (h1) (h:=?_))|(refine s_call (h2) (h:=?_))|(refine p_call (h2) (h:=?_))|(refine go_ ?_;((repeat' first|exact True.intro|refine Two.mk ?_ ?_);all_goals intros))|fail "")
    all_goals first
      | (refine ⟨true,?_,?_⟩;rotate_left 1;(exact lessA_);(exact Z62_))
      | (refine ⟨false,?_,?_⟩;rotate_left 1;(exact lessA_);(exact Z56_))
      | skip
  rintro ok hok
  clear h1 h2
  refine r_cut (fun ok:Bool=>⟨[(1,.ptr 0 0 0 0),(2,.lit (.int .i64 0)),(3,.lit (.bool ok))],[(0,some (.box 132 (encSender s)))],1,Tryz.f141.ntmps⟩) (fun ok=>ok=true ↔ sndHead s) ?_ ?_
  · rw [sndHead_iff]
    cases ok
    · have hn:¬ sndNum s:=fun h=>by have:=hok.2 h;cases this
      clear hok
      (repeat' first|(refine go_ ?_;((repeat' first|exact True.intro|refine Two.mk ?_ ?_);all_goals intros))|fail "")
      all_goals first
        | (refine ⟨false,?_,?_⟩;rotate_left 1;(exact lessA_);(focus (exact ⟨(fun h=>by cases h),fun h=>absurd h.1 hn⟩)))
        | skip
    · have hn:=hok.1 rfl
      clear hok
      obtain ⟨data,fin,next,mx,lost,acked,en,ov⟩:=s
      dsimp only at *
      cases fin <;> cases en <;> cases ov
      all_goals (repeat' first|(refine go_ ?_;((repeat' first|exact True.intro|refine Two.mk ?_ ?_);all_goals intros))|fail "")
      all_goals first
        | (refine ⟨true,?_,?_⟩;rotate_left 1;(exact lessA_);(focus (exact ⟨fun _=>⟨hn,rfl,fun h=>(by first|omega|cases h)⟩,fun _=>rfl⟩)))
        | (refine ⟨false,?_,?_⟩;rotate_left 1;(exact lessA_);(focus (exact ⟨(fun h=>by cases h),fun h=>(by obtain ⟨_,q8,q9⟩:=h;first|(cases q8;done)|(exfalso;have q9:=q9 rfl;dsimp only at *;omega))⟩)))
        | skip
  clear ok hok
  rintro ok hok
  have hll:(s.Lost++s.Acked).length=s.Lost.length+s.Acked.length:=List.length_append
  have hiff:=sndOk_iff s
  (repeat' first|(refine s_app (r:=s.Lost.map encRange) ?_ ?_ ?_ ?_ (h:=?_);(exact Z65_);(exact Z47_);(exact Z12_);(exact Z22_))|(refine s_app0R (r:=s.Lost.map encRange) ?_ ?_ ?_ ?_ (h:=?_);(exact Z65_);(exact Z47_);(exact Z12_);(exact Z22_))|(refine p_app (r:=s.Lost.map encRange) ?_ ?_ ?_ ?_ (h:=?_);(exact Z65_);(exact Z47_);(exact Z12_);(exact Z22_))|(refine s_appro (r:=(s.Lost++s.Acked).map encRange) ?_ ?_ ?_ ?_ (h:=?_);(exact Z61_);(exact Z47_);(exact Z12_);(exact Z22_))|(refine p_appro (r:=(s.Lost++s.Acked).map encRange) ?_ ?_ ?_ ?_ (h:=?_);(exact Z61_);(exact Z47_);(exact Z12_);(exact Z22_))|(refine go_ ?_;((repeat' first|exact True.intro|refine Two.mk ?_ ?_);all_goals intros))|fail "")
  generalize s.Lost++s.Acked=L at *
  refine r_for (fun x:Nat×Bool=>⟨[(1,.ptr 0 0 0 0),(2,.lit (.int .i64 0)),(3,.lit (.bool x.2)),(79,.ro (L.map encRange)),(80,.lit (.int .i64 L.length)),(81,.lit (.int .i64 x.1))],[(0,some (.box 132 (encSender s)))],1,Tryz.f141.ntmps⟩)
    (fun x=>x.1≤L.length∧(x.2=true ↔ sndHead s∧AllTo (fun i=>(L.getD i default).Hi<s.Next) x.1)) (fun x=>L.length - x.1) (0,ok) ⟨Nat.zero_le _,by rw [hok];exact ⟨fun h=>⟨h,allTo0⟩,fun h=>h.1⟩⟩ (by (try dsimp only);(exact lessA_)) ?_
  rintro ⟨k,ok⟩ ⟨hk,hi⟩
  dsimp only at hk hi ⊢
  by_cases hkn:k<L.length
  · have hs:=allTo_succ (Q:=fun i=>(L.getD i default).Hi<s.Next) (k:=k)
    cases ok
    · have hi:¬ (sndHead s∧AllTo (fun i=>(L.getD i default).Hi<s.Next) k):=fun h=>by have:=hi.2 h;cases this
      (repeat' first|(refine go_ ?_;((repeat' first|exact True.intro|refine Two.mk ?_ ?_);all_goals intros))|fail "")
      all_goals first
        | (refine ⟨(k+1,false),?_,?_,?_⟩;rotate_left 2;(exact lessA_);(exact Z66_);(exact Z46_))
        | skip
    · obtain ⟨hh,ha⟩:=hi.1 rfl
      (repeat' first|(refine go_ ?_;((repeat' first|exact True.intro|refine Two.mk ?_ ?_);all_goals intros))|fail "")
      all_goals first
        | (refine ⟨(k+1,true),?_,?_,?_⟩;rotate_left 2;(exact lessA_);(exact Z66_);(exact Z50_))
        | (refine ⟨(k+1,false),?_,?_,?_⟩;rotate_left 2;(exact lessA_);(exact Z66_);(exact Z23_))
        | skip
  · have hkl:k=L.length:=by omega
    subst hkl
    cases ok
    · rw [sndFlt_f (fun h=>by have:=hi.2 (hiff.1 h).1;cases this)]
      (repeat' first|(refine go_ ?_;((repeat' first|exact True.intro|refine Two.mk ?_ ?_);all_goals intros))|fail "")
      all_goals exact ends_ (hr:=rfl)
    · have hi:=hi.1 rfl
      by_cases ha:apartL s.Lost s.Acked
      · rw [sndFlt_t (hiff.2 ⟨hi,ha⟩)]
        rw [no_of (fun h=>h ha)] at h3
        (repeat' first|(refine s_call (h3) (h:=?_))|(refine p_call (h3) (h:=?_))|(refine go_ ?_;((repeat' first|exact True.intro|refine Two.mk ?_ ?_);all_goals intros))|fail "")
        all_goals exact ends_ (hr:=rfl)
      · rw [sndFlt_f (fun h=>ha (hiff.1 h).2)]
        rw [yes_of ha] at h3
        (repeat' first|(refine s_call (h3) (h:=?_))|(refine p_call (h3) (h:=?_))|(refine go_ ?_;((repeat' first|exact True.intro|refine Two.mk ?_ ?_);all_goals intros))|fail "")
        all_goals exact ends_ (hr:=rfl)
end Go.Proofs.YtendheafcbickaaGreat
