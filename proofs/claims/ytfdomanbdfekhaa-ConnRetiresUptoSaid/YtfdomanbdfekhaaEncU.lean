/-
  THE STRUCTS OF PACKAGE api: what is known of them within the bound of the second form. Written by a program (mku.py).
-/
import Derived.Test.YtfdomanbdfekhaaEnc
set_option linter.unusedVariables false
namespace Go.Proofs.Ytfdomanbdfekhaa.U
open Go.RowKit

def wfRange (x : DRange) : Prop := I64 x.Lo ∧ I64 x.Hi
theorem wf_leRange (x : DRange) (h : wfRange x) : Proofs.Ytfdomanbdfekhaa.wfRange x := by
  unfold wfRange at h
  unfold Proofs.Ytfdomanbdfekhaa.wfRange
  obtain ⟨h0, h1⟩ := h
  exact ⟨h0, h1⟩

def wfFlow (x : DFlow) : Prop := I64 x.Max ∧ I64 x.Used
theorem wf_leFlow (x : DFlow) (h : wfFlow x) : Proofs.Ytfdomanbdfekhaa.wfFlow x := by
  unfold wfFlow at h
  unfold Proofs.Ytfdomanbdfekhaa.wfFlow
  obtain ⟨h0, h1⟩ := h
  exact ⟨h0, h1⟩

def wfPace (x : DPace) : Prop := I64 x.Window ∧ I64 x.Thresh ∧ I64 x.Flying ∧ I64 x.Since
theorem wf_lePace (x : DPace) (h : wfPace x) : Proofs.Ytfdomanbdfekhaa.wfPace x := by
  unfold wfPace at h
  unfold Proofs.Ytfdomanbdfekhaa.wfPace
  obtain ⟨h0, h1, h2, h3⟩ := h
  exact ⟨h0, h1, h2, h3⟩

def wfTally (x : DTally) : Prop := I64 x.Got ∧ I64 x.Sent
theorem wf_leTally (x : DTally) (h : wfTally x) : Proofs.Ytfdomanbdfekhaa.wfTally x := by
  unfold wfTally at h
  unfold Proofs.Ytfdomanbdfekhaa.wfTally
  obtain ⟨h0, h1⟩ := h
  exact ⟨h0, h1⟩

def wfField (x : DField) : Prop := x.Name.length ≤ 1048576 ∧ x.Value.length ≤ 1048576
theorem wf_leField (x : DField) (h : wfField x) : Proofs.Ytfdomanbdfekhaa.wfField x := by
  unfold wfField at h
  unfold Proofs.Ytfdomanbdfekhaa.wfField
  obtain ⟨h0, h1⟩ := h
  exact ⟨(by have := h0; omega), (by have := h1; omega)⟩

def wfPiece (x : DPiece) : Prop := I64 x.Off ∧ x.Data.length * 1 ≤ 1048576
theorem wf_lePiece (x : DPiece) (h : wfPiece x) : Proofs.Ytfdomanbdfekhaa.wfPiece x := by
  unfold wfPiece at h
  unfold Proofs.Ytfdomanbdfekhaa.wfPiece
  obtain ⟨h0, h1⟩ := h
  exact ⟨h0, (by have := h1; omega)⟩

def wfGather (x : DGather) : Prop := I64 x.Done ∧ x.Held.length * 32 ≤ 33554432 ∧ (∀ y, y ∈ x.Held → wfPiece y) ∧ I64 x.Final ∧ I64 x.Window
theorem wf_leGather (x : DGather) (h : wfGather x) : Proofs.Ytfdomanbdfekhaa.wfGather x := by
  unfold wfGather at h
  unfold Proofs.Ytfdomanbdfekhaa.wfGather
  obtain ⟨h0, h1, h2, h3, h4⟩ := h
  exact ⟨h0, (by have := h1; omega), (fun y hy => wf_lePiece y (h2 y hy)), h3, h4⟩

def wfSender (x : DSender) : Prop := x.Data.length * 1 ≤ 1048576 ∧ I64 x.Next ∧ I64 x.Max ∧ x.Lost.length * 16 ≤ 16777216 ∧ (∀ y, y ∈ x.Lost → wfRange y) ∧ x.Acked.length * 16 ≤ 16777216 ∧ (∀ y, y ∈ x.Acked → wfRange y)
theorem wf_leSender (x : DSender) (h : wfSender x) : Proofs.Ytfdomanbdfekhaa.wfSender x := by
  unfold wfSender at h
  unfold Proofs.Ytfdomanbdfekhaa.wfSender
  obtain ⟨h0, h1, h2, h3, h4, h5, h6⟩ := h
  exact ⟨(by have := h0; omega), h1, h2, (by have := h3; omega), (fun y hy => wf_leRange y (h4 y hy)), (by have := h5; omega), (fun y hy => wf_leRange y (h6 y hy))⟩

def wfFrame (x : DFrame) : Prop := I64 x.Kind ∧ I64 x.Id ∧ I64 x.Off ∧ I64 x.Code ∧ x.Ranges.length * 16 ≤ 16777216 ∧ (∀ y, y ∈ x.Ranges → wfRange y) ∧ x.Data.length * 1 ≤ 1048576
theorem wf_leFrame (x : DFrame) (h : wfFrame x) : Proofs.Ytfdomanbdfekhaa.wfFrame x := by
  unfold wfFrame at h
  unfold Proofs.Ytfdomanbdfekhaa.wfFrame
  obtain ⟨h0, h1, h2, h3, h4, h5, h6⟩ := h
  exact ⟨h0, h1, h2, h3, (by have := h4; omega), (fun y hy => wf_leRange y (h5 y hy)), (by have := h6; omega)⟩

def wfHead (x : DHead) : Prop := I64 x.Kind ∧ I64 x.To ∧ I64 x.From ∧ x.Token.length * 1 ≤ 1048576 ∧ I64 x.Number ∧ I64 x.Size
theorem wf_leHead (x : DHead) (h : wfHead x) : Proofs.Ytfdomanbdfekhaa.wfHead x := by
  unfold wfHead at h
  unfold Proofs.Ytfdomanbdfekhaa.wfHead
  obtain ⟨h0, h1, h2, h3, h4, h5⟩ := h
  exact ⟨h0, h1, h2, (by have := h3; omega), h4, h5⟩

def wfParcel (x : DParcel) : Prop := I64 x.Number ∧ I64 x.Time ∧ I64 x.Size ∧ x.Frames.length * 88 ≤ 92274688 ∧ (∀ y, y ∈ x.Frames → wfFrame y)
theorem wf_leParcel (x : DParcel) (h : wfParcel x) : Proofs.Ytfdomanbdfekhaa.wfParcel x := by
  unfold wfParcel at h
  unfold Proofs.Ytfdomanbdfekhaa.wfParcel
  obtain ⟨h0, h1, h2, h3, h4⟩ := h
  exact ⟨h0, h1, h2, (by have := h3; omega), (fun y hy => wf_leFrame y (h4 y hy))⟩

def wfSpace (x : DSpace) : Prop := I64 x.Next ∧ x.Sent.length * 48 ≤ 50331648 ∧ (∀ y, y ∈ x.Sent → wfParcel y) ∧ I64 x.Top ∧ x.Heard.length * 16 ≤ 16777216 ∧ (∀ y, y ∈ x.Heard → wfRange y) ∧ x.Skip.length * 8 ≤ 8388608 ∧ (∀ y, y ∈ x.Skip → I64 y)
theorem wf_leSpace (x : DSpace) (h : wfSpace x) : Proofs.Ytfdomanbdfekhaa.wfSpace x := by
  unfold wfSpace at h
  unfold Proofs.Ytfdomanbdfekhaa.wfSpace
  obtain ⟨h0, h1, h2, h3, h4, h5, h6, h7⟩ := h
  exact ⟨h0, (by have := h1; omega), (fun y hy => wf_leParcel y (h2 y hy)), h3, (by have := h4; omega), (fun y hy => wf_leRange y (h5 y hy)), (by have := h6; omega), h7⟩

def wfTable (x : DTable) : Prop := I64 x.Room ∧ I64 x.Put ∧ x.Rows.length * 32 ≤ 33554432 ∧ (∀ y, y ∈ x.Rows → wfField y)
theorem wf_leTable (x : DTable) (h : wfTable x) : Proofs.Ytfdomanbdfekhaa.wfTable x := by
  unfold wfTable at h
  unfold Proofs.Ytfdomanbdfekhaa.wfTable
  obtain ⟨h0, h1, h2, h3⟩ := h
  exact ⟨h0, h1, (by have := h2; omega), (fun y hy => wf_leField y (h3 y hy))⟩

def wfRequest (x : DRequest) : Prop := x.Fields.length * 32 ≤ 33554432 ∧ (∀ y, y ∈ x.Fields → wfField y) ∧ x.Body.length * 1 ≤ 1048576
theorem wf_leRequest (x : DRequest) (h : wfRequest x) : Proofs.Ytfdomanbdfekhaa.wfRequest x := by
  unfold wfRequest at h
  unfold Proofs.Ytfdomanbdfekhaa.wfRequest
  obtain ⟨h0, h1, h2⟩ := h
  exact ⟨(by have := h0; omega), (fun y hy => wf_leField y (h1 y hy)), (by have := h2; omega)⟩

def wfReader (x : DReader) : Prop := x.Held.length * 1 ≤ 1048576 ∧ x.Fields.length * 32 ≤ 33554432 ∧ (∀ y, y ∈ x.Fields → wfField y) ∧ x.Body.length * 1 ≤ 1048576
theorem wf_leReader (x : DReader) (h : wfReader x) : Proofs.Ytfdomanbdfekhaa.wfReader x := by
  unfold wfReader at h
  unfold Proofs.Ytfdomanbdfekhaa.wfReader
  obtain ⟨h0, h1, h2, h3⟩ := h
  exact ⟨(by have := h0; omega), (by have := h1; omega), (fun y hy => wf_leField y (h2 y hy)), (by have := h3; omega)⟩

def wfLane (x : DLane) : Prop := I64 x.Id ∧ wfGather x.In ∧ x.Read.length * 1 ≤ 1048576 ∧ wfSender x.Out
theorem wf_leLane (x : DLane) (h : wfLane x) : Proofs.Ytfdomanbdfekhaa.wfLane x := by
  unfold wfLane at h
  unfold Proofs.Ytfdomanbdfekhaa.wfLane
  obtain ⟨h0, h1, h2, h3⟩ := h
  exact ⟨h0, (wf_leGather _ h1), (by have := h2; omega), (wf_leSender _ h3)⟩

def wfConn (x : DConn) : Prop := wfSpace x.Space ∧ wfPace x.Pace ∧ wfFlow x.Flow ∧ wfFlow x.Credit ∧ I64 x.Ids ∧ I64 x.Grant ∧ I64 x.Opened ∧ x.Lanes.length * 192 ≤ 201326592 ∧ (∀ y, y ∈ x.Lanes → wfLane y) ∧ x.Queue.length * 88 ≤ 92274688 ∧ (∀ y, y ∈ x.Queue → wfFrame y) ∧ I64 x.Last ∧ I64 x.Resets ∧ I64 x.Code
theorem wf_leConn (x : DConn) (h : wfConn x) : Proofs.Ytfdomanbdfekhaa.wfConn x := by
  unfold wfConn at h
  unfold Proofs.Ytfdomanbdfekhaa.wfConn
  obtain ⟨h0, h1, h2, h3, h4, h5, h6, h7, h8, h9, h10, h11, h12, h13⟩ := h
  exact ⟨(wf_leSpace _ h0), (wf_lePace _ h1), (wf_leFlow _ h2), (wf_leFlow _ h3), h4, h5, h6, (by have := h7; omega), (fun y hy => wf_leLane y (h8 y hy)), (by have := h9; omega), (fun y hy => wf_leFrame y (h10 y hy)), h11, h12, h13⟩

def wfNote (x : DNote) : Prop := I64 x.Id ∧ I64 x.From ∧ I64 x.Peer ∧ U64 x.Key ∧ wfConn x.Conn
theorem wf_leNote (x : DNote) (h : wfNote x) : Proofs.Ytfdomanbdfekhaa.wfNote x := by
  unfold wfNote at h
  unfold Proofs.Ytfdomanbdfekhaa.wfNote
  obtain ⟨h0, h1, h2, h3, h4⟩ := h
  exact ⟨h0, h1, h2, h3, (wf_leConn _ h4)⟩

def wfGate (x : DGate) : Prop := U64 x.Secret ∧ I64 x.Now ∧ I64 x.Next ∧ x.Notes.length * 312 ≤ 327155712 ∧ (∀ y, y ∈ x.Notes → wfNote y) ∧ wfTally x.Tally0 ∧ wfTally x.Tally1 ∧ wfTally x.Tally2 ∧ wfTally x.Tally3 ∧ I64 x.Shed
theorem wf_leGate (x : DGate) (h : wfGate x) : Proofs.Ytfdomanbdfekhaa.wfGate x := by
  unfold wfGate at h
  unfold Proofs.Ytfdomanbdfekhaa.wfGate
  obtain ⟨h0, h1, h2, h3, h4, h5, h6, h7, h8, h9⟩ := h
  exact ⟨h0, h1, h2, (by have := h3; omega), (fun y hy => wf_leNote y (h4 y hy)), (wf_leTally _ h5), (wf_leTally _ h6), (wf_leTally _ h7), (wf_leTally _ h8), h9⟩

def wfMail (x : DMail) : Prop := I64 x.Peer ∧ x.Data.length * 1 ≤ 1048576
theorem wf_leMail (x : DMail) (h : wfMail x) : Proofs.Ytfdomanbdfekhaa.wfMail x := by
  unfold wfMail at h
  unfold Proofs.Ytfdomanbdfekhaa.wfMail
  obtain ⟨h0, h1⟩ := h
  exact ⟨h0, (by have := h1; omega)⟩

def wfClient (x : DClient) : Prop := I64 x.Peer ∧ I64 x.Id ∧ U64 x.Word ∧ x.Token.length * 1 ≤ 1048576 ∧ I64 x.To ∧ U64 x.Key ∧ wfConn x.Conn
theorem wf_leClient (x : DClient) (h : wfClient x) : Proofs.Ytfdomanbdfekhaa.wfClient x := by
  unfold wfClient at h
  unfold Proofs.Ytfdomanbdfekhaa.wfClient
  obtain ⟨h0, h1, h2, h3, h4, h5, h6⟩ := h
  exact ⟨h0, h1, h2, (by have := h3; omega), h4, h5, (wf_leConn _ h6)⟩

def wfAct (x : DAct) : Prop := I64 x.Kind ∧ I64 x.Peer ∧ I64 x.At ∧ I64 x.N ∧ U64 x.Word ∧ x.Data.length * 1 ≤ 1048576
theorem wf_leAct (x : DAct) (h : wfAct x) : Proofs.Ytfdomanbdfekhaa.wfAct x := by
  unfold wfAct at h
  unfold Proofs.Ytfdomanbdfekhaa.wfAct
  obtain ⟨h0, h1, h2, h3, h4, h5⟩ := h
  exact ⟨h0, h1, h2, h3, h4, (by have := h5; omega)⟩

def wfLetter (x : DLetter) : Prop := wfMail x.Mail
theorem wf_leLetter (x : DLetter) (h0 : wfLetter x) : Proofs.Ytfdomanbdfekhaa.wfLetter x := by
  unfold wfLetter at h0
  unfold Proofs.Ytfdomanbdfekhaa.wfLetter
  exact (wf_leMail _ h0)

def wfWorld (x : DWorld) : Prop := wfGate x.Gate ∧ x.Clients.length * 336 ≤ 352321536 ∧ (∀ y, y ∈ x.Clients → wfClient y) ∧ x.Way.length * 40 ≤ 41943040 ∧ (∀ y, y ∈ x.Way → wfLetter y) ∧ I64 x.Now
theorem wf_leWorld (x : DWorld) (h : wfWorld x) : Proofs.Ytfdomanbdfekhaa.wfWorld x := by
  unfold wfWorld at h
  unfold Proofs.Ytfdomanbdfekhaa.wfWorld
  obtain ⟨h0, h1, h2, h3, h4, h5⟩ := h
  exact ⟨(wf_leGate _ h0), (by have := h1; omega), (fun y hy => wf_leClient y (h2 y hy)), (by have := h3; omega), (fun y hy => wf_leLetter y (h4 y hy)), h5⟩

end Go.Proofs.Ytfdomanbdfekhaa.U
