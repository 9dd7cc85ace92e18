/-
  SEVERAL TEXTS IN ONE: each with its own comment.
-/
import Derived.Test.YtendheafcbickaaGreatZip
import Derived.Test.YtendheafcbickaaGreatGo
import Derived.Test.YtendheafcbickaaGreatMg17
import Derived.Test.YtendheafcbickaaGreatMg13
import Derived.Test.YtendheafcbickaaGreatMg07
import Derived.Test.YtendheafcbickaaGreatMg16
import Derived.Test.YtendheafcbickaaGreatMg20
import Derived.Test.YtendheafcbickaaGreatOverdue
import Derived.Test.YtendheafcbickaaGreatMg05

set_option linter.unusedVariables false
set_option linter.unusedSimpArgs false
set_option linter.unusedVariables false
namespace Go.Proofs.YtendheafcbickaaGreat
set_option maxRecDepth 100000
attribute [local irreducible] Run RunL QStep GStep Fn Less PL FnM
set_option maxHeartbeats 1000000 in
theorem senderFresh_fnm (s:DSender) (hw:wfSender s) :
    FnM Tryz.prog 205 [.agg (encSender s)] [] 0 (.agg [.own 0,.lit (.bool s.Fin),.lit (.int .i64 s.Next),.lit (.int .i64 s.Max),.own 1,.own 2,.lit (.bool s.Ended),.lit (.bool s.Over)]) [(0,some (.row 5 1 (s.Data.map encB))),(1,some (.row 146 2 (s.Lost.map encRange))),(2,some (.row 146 2 (s.Acked.map encRange)))] 3:=by
  have hl:=hw.1
  have hl2:=hw.2.2.2.1
  have hl3:=hw.2.2.2.2.2.1
  refine fnm_of_run (by kernel_rfl) Tryz.func205 rfl (by kernel_rfl) (by rfl) ?_
  (repeat' first|(refine s_app (r:=s.Data.map encB) ?_ ?_ ?_ ?_ (h:=?_);(exact Z65_);(exact Z42_);(exact Z10_);(exact Z21_))|(refine s_app0R (r:=s.Data.map encB) ?_ ?_ ?_ ?_ (h:=?_);(exact Z65_);(exact Z42_);(exact Z10_);(exact Z21_))|(refine p_app (r:=s.Data.map encB) ?_ ?_ ?_ ?_ (h:=?_);(exact Z65_);(exact Z42_);(exact Z10_);(exact Z21_))|(refine s_app (r:=s.Lost.map encRange) ?_ ?_ ?_ ?_ (h:=?_);(exact Z65_);(exact Z42_);(exact Z10_);(exact Z21_))|(refine s_app0R (r:=s.Lost.map encRange) ?_ ?_ ?_ ?_ (h:=?_);(exact Z65_);(exact Z42_);(exact Z10_);(exact Z21_))|(refine p_app (r:=s.Lost.map encRange) ?_ ?_ ?_ ?_ (h:=?_);(exact Z65_);(exact Z42_);(exact Z10_);(exact Z21_))|(refine s_app (r:=s.Acked.map encRange) ?_ ?_ ?_ ?_ (h:=?_);(exact Z65_);(exact Z42_);(exact Z10_);(exact Z21_))|(refine s_app0R (r:=s.Acked.map encRange) ?_ ?_ ?_ ?_ (h:=?_);(exact Z65_);(exact Z42_);(exact Z10_);(exact Z21_))|(refine p_app (r:=s.Acked.map encRange) ?_ ?_ ?_ ?_ (h:=?_);(exact Z65_);(exact Z42_);(exact Z10_);(exact Z21_))|(refine go_ ?_;((repeat' first|exact True.intro|refine Two.mk ?_ ?_);all_goals intros))|fail "")
  all_goals first
    | (exact endmA_)
    | skip
noncomputable def wrR (s:DSender) (b:List UInt8) (fin:Bool):DSender×Int:=
  if sndFlt s≠0 then (sndZ,sndFlt s) else if s.Fin=true then (sndZ,17) else if 600<s.Data.length+b.length then (sndZ,8) else ({ s with Data:=s.Data++b,Fin:=fin },0)
set_option maxHeartbeats 4000000 in
theorem senderWrite_fn (s:DSender) (b:List UInt8) (fin:Bool) (hw:wfSender s) (hb:b.length≤1000000000000000):Fn Tryz.prog 100 [.agg (encSender s),.ro (b.map encB),.lit (.bool fin)] (.tup [.agg (encSender (wrR s b fin).1),.lit (.int .i64 (wrR s b fin).2)]):=by
  have h1:=senderCheck_fn s hw
  have h2:=senderFresh_fnm s hw
  have w1:=hw.1
  clear hw
  unfold wrR
  rcases sndFlt_cases s with ⟨h0,hok⟩ | ⟨h0,hbad⟩
  · rw [h0] at h1
    rw [if_neg (by omega)]
    have hd:s.Data.length≤600:=hok.1.1.1.1
    clear hok h0
    obtain ⟨data,f0,next,mx,lost,acked,en,ov⟩:=s
    dsimp only [encSender] at *
    cases f0
    · rw [if_neg (by decide)]
      by_cases hl:600<data.length+b.length
      · rw [if_pos hl]
        refine fn_of_run (by kernel_rfl) Tryz.func100 rfl (by kernel_rfl) ?_
        (repeat' first|(refine s_call (h1) (h:=?_))|(refine p_call (h1) (h:=?_))|(refine go_ ?_;((repeat' first|exact True.intro|refine Two.mk ?_ ?_);all_goals intros))|fail "")
        all_goals first
          | (exact endwA_)
          | skip
      · rw [if_neg hl]
        refine fn_of_run (by kernel_rfl) Tryz.func100 rfl (by kernel_rfl) ?_
        (repeat' first|(refine s_call (h1) (h:=?_))|(refine p_call (h1) (h:=?_))|(refine s_callM [] (h2) (h:=?_))|refine s_callV [] (h2) (h:=?_)|(refine s_appro (r:=(data++b).map encB) ?_ ?_ ?_ ?_ (h:=?_);(exact Z59_);(exact Z42_);(exact Z10_);(exact Z21_))|(refine p_appro (r:=(data++b).map encB) ?_ ?_ ?_ ?_ (h:=?_);(exact Z59_);(exact Z42_);(exact Z10_);(exact Z21_))|(refine go_ ?_;((repeat' first|exact True.intro|refine Two.mk ?_ ?_);all_goals intros))|fail "")
        all_goals first
          | (exact endwA_)
          | skip
    · rw [if_pos rfl]
      refine fn_of_run (by kernel_rfl) Tryz.func100 rfl (by kernel_rfl) ?_
      (repeat' first|(refine s_call (h1) (h:=?_))|(refine p_call (h1) (h:=?_))|(refine go_ ?_;((repeat' first|exact True.intro|refine Two.mk ?_ ?_);all_goals intros))|fail "")
      all_goals first
        | (exact endwA_)
        | skip
  · rw [h0] at h1 ⊢
    rw [if_pos (by decide)]
    refine fn_of_run (by kernel_rfl) Tryz.func100 rfl (by kernel_rfl) ?_
    (repeat' first|(refine s_call (h1) (h:=?_))|(refine p_call (h1) (h:=?_))|(refine go_ ?_;((repeat' first|exact True.intro|refine Two.mk ?_ ?_);all_goals intros))|fail "")
    all_goals first
      | (exact endwA_)
      | skip
end Go.Proofs.YtendheafcbickaaGreat


set_option linter.unusedVariables false
set_option linter.unusedSimpArgs false
set_option linter.unusedVariables false
namespace Go.Proofs.YtendheafcbickaaGreat
set_option maxRecDepth 100000
attribute [local irreducible] Run RunL QStep GStep Fn Less PL FnM
noncomputable def grR (s:DSender) (n:Int):DSender×Int:=
  if sndFlt s≠0 then (sndZ,sndFlt s) else if 0≤n∧n≤4611686018427387903 then ({ s with Max:=max s.Max n },0) else (sndZ,6)
set_option maxHeartbeats 4000000 in
theorem senderWritten_fn (s:DSender) (b:List UInt8) (fin:Bool) (hw:U.wfSender s) (hb:b.length≤4294967296):Fn Tryz.prog 106 [.agg (encSender s),.ro (b.map encB),.lit (.bool fin)] (.tup [.agg (encSender (wrR s b fin).1),.lit (.int .i64 (wrR s b fin).2)]):=by
  have h1:=senderFault_fn s hw
  have w1:=hw.1
  clear hw
  unfold wrR
  rcases sndFlt_cases s with ⟨h0,hok⟩ | ⟨h0,hbad⟩
  · rw [h0] at h1
    rw [if_neg (by omega)]
    have hd:s.Data.length≤600:=hok.1.1.1.1
    clear hok h0
    obtain ⟨data,f0,next,mx,lost,acked,en,ov⟩:=s
    dsimp only [encSender] at *
    cases f0
    · rw [if_neg (by decide)]
      by_cases hl:600<data.length+b.length
      · rw [if_pos hl]
        refine fn_of_run (by kernel_rfl) Tryz.func106 rfl (by kernel_rfl) ?_
        (repeat' first|(refine s_call (h1) (h:=?_))|(refine p_call (h1) (h:=?_))|(refine go_ ?_;((repeat' first|exact True.intro|refine Two.mk ?_ ?_);all_goals intros))|fail "")
        all_goals first
          | (exact endwA_)
          | skip
      · rw [if_neg hl]
        refine fn_of_run (by kernel_rfl) Tryz.func106 rfl (by kernel_rfl) ?_
        (repeat' first|(refine s_call (h1) (h:=?_))|(refine p_call (h1) (h:=?_))|(refine go_ ?_;((repeat' first|exact True.intro|refine Two.mk ?_ ?_);all_goals intros))|fail "")
        all_goals first
          | (exact endwA_)
          | skip
    · rw [if_pos rfl]
      refine fn_of_run (by kernel_rfl) Tryz.func106 rfl (by kernel_rfl) ?_
      (repeat' first|(refine s_call (h1) (h:=?_))|(refine p_call (h1) (h:=?_))|(refine go_ ?_;((repeat' first|exact True.intro|refine Two.mk ?_ ?_);all_goals intros))|fail "")
      all_goals first
        | (exact endwA_)
        | skip
  · rw [h0] at h1 ⊢
    rw [if_pos (by decide)]
    refine fn_of_run (by kernel_rfl) Tryz.func106 rfl (by kernel_rfl) ?_
    (repeat' first|(refine s_call (h1) (h:=?_))|(refine p_call (h1) (h:=?_))|(refine go_ ?_;((repeat' first|exact True.intro|refine Two.mk ?_ ?_);all_goals intros))|fail "")
    all_goals first
      | (exact endwA_)
      | skip
end Go.Proofs.YtendheafcbickaaGreat


set_option linter.unusedVariables false
set_option linter.unusedSimpArgs false
set_option linter.unusedVariables false
namespace Go.Proofs.YtendheafcbickaaGreat
set_option maxRecDepth 100000
attribute [local irreducible] Run RunL QStep GStep Fn Less PL FnM
def cnSet (c:DConn) (i:Nat) (l:DLane):DConn:={ c with Lanes:=c.Lanes.set i l }
noncomputable def cnWriteR (c:DConn) (id:Int) (b:List UInt8) (fin:Bool):DConn×Int:=
  if cnFlt c=0 then (if c.Closed=true then (default,17) else if lnIx c.Lanes id<c.Lanes.length then
    (if (wrR (c.Lanes.getD (lnIx c.Lanes id) default).Out b fin).2=0 then (cnSet c (lnIx c.Lanes id) { c.Lanes.getD (lnIx c.Lanes id) default with Out:=(wrR (c.Lanes.getD (lnIx c.Lanes id) default).Out b fin).1 },0) else (default,(wrR (c.Lanes.getD (lnIx c.Lanes id) default).Out b fin).2)) else (default,5)) else (default,9)
set_option maxHeartbeats 4000000 in
theorem laneAt_fn (c:DConn) (id:Int) (hl:c.Lanes.length≤1000000):Fn Tryz.prog 105 [.agg (encConn c),.lit (.int .i64 id)] (.lit (.int .i64 (if lnIx c.Lanes id<c.Lanes.length then (lnIx c.Lanes id:Int) else -1))):=by
  have hle:=lnIx_le c.Lanes id
  generalize hP:(if lnIx c.Lanes id<c.Lanes.length then (lnIx c.Lanes id:Int) else -1)=R
  refine fn_of_run (by kernel_rfl) Tryz.func105 rfl (by kernel_rfl) ?_
  (repeat' first|(refine go_ ?_;((repeat' first|exact True.intro|refine Two.mk ?_ ?_);all_goals intros))|fail "")
  refine r_for (fun k:Nat=>⟨[(1,.lit (.int .i64 id)),(8,.ro (c.Lanes.map encLane)),(9,.lit (.int .i64 c.Lanes.length)),(10,.lit (.int .i64 k))],[],0,Tryz.f105.ntmps⟩)
    (fun k=>k≤lnIx c.Lanes id) (fun k=>c.Lanes.length - k) 0 (Nat.zero_le _) (by (exact lessA_)) ?_
  intro k hk
  by_cases hkn:k<c.Lanes.length
  · by_cases he:(c.Lanes.getD k default).Id=id
    · have hx:=lnIx_of hkn hk he
      rw [hx,if_pos hkn] at hP
      subst hP
      (repeat' first|(refine go_ ?_;((repeat' first|exact True.intro|refine Two.mk ?_ ?_);all_goals intros))|fail "")
      all_goals first
        | (exact endwA_)
        | skip
    · have hx:=lnIx_step hkn hk he
      (repeat' first|(refine go_ ?_;((repeat' first|exact True.intro|refine Two.mk ?_ ?_);all_goals intros))|fail "")
      all_goals first
        | (refine ⟨k+1,?_,?_,?_⟩;rotate_left 2;(exact lessA_);(exact Z69_);(focus (exact hx)))
        | skip
  · have hkl:k=c.Lanes.length:=by omega
    rw [if_neg (by omega)] at hP
    subst hP
    (repeat' first|(refine go_ ?_;((repeat' first|exact True.intro|refine Two.mk ?_ ?_);all_goals intros))|fail "")
    all_goals first
      | (exact endwA_)
      | skip
set_option maxHeartbeats 4000000 in
theorem setLane_fn (c:DConn) (i:Nat) (l:DLane) (hl:c.Lanes.length≤1000000) (hi:i<c.Lanes.length):Fn Tryz.prog 107 [.agg (encConn c),.lit (.int .i64 i),.agg (encLane l)] (.agg (encConn (cnSet c i l))):=by
  unfold cnSet
  generalize hZ:encConn { c with Lanes:=c.Lanes.set i l }=Z
  unfold encConn at hZ
  dsimp only at hZ
  subst hZ
  refine fn_of_run (by kernel_rfl) Tryz.func107 rfl (by kernel_rfl) ?_
  (repeat' first|(refine s_app (r:=c.Lanes.map encLane) ?_ ?_ ?_ ?_ (h:=?_);(exact Z65_);(exact Z42_);(exact Z10_);(exact Z21_))|(refine s_app0R (r:=c.Lanes.map encLane) ?_ ?_ ?_ ?_ (h:=?_);(exact Z65_);(exact Z42_);(exact Z10_);(exact Z21_))|(refine p_app (r:=c.Lanes.map encLane) ?_ ?_ ?_ ?_ (h:=?_);(exact Z65_);(exact Z42_);(exact Z10_);(exact Z21_))|(refine s_set (r:=(c.Lanes.set i l).map encLane) ?_ ?_ (h:=?_);(exact Z11_);(focus ((rw [eAt_map encLane hi,List.map_set];rfl))))|(refine p_set (r:=(c.Lanes.set i l).map encLane) ?_ ?_ (h:=?_);(exact Z11_);(focus ((rw [eAt_map encLane hi,List.map_set];rfl))))|(refine go_ ?_;((repeat' first|exact True.intro|refine Two.mk ?_ ?_);all_goals intros))|fail "")
  all_goals first
    | (exact endwA_)
    | skip
end Go.Proofs.YtendheafcbickaaGreat


set_option linter.unusedVariables false
set_option linter.unusedSimpArgs false
set_option linter.unusedVariables false
namespace Go.Proofs.YtendheafcbickaaGreat
set_option maxRecDepth 100000
def clsF (e:Int):DFrame:=⟨28,0,0,false,e,[],[]⟩
def cnShut (c:DConn) (e:Int):DConn:={ c with Closed:=true,Code:=e,Queue:=[clsF e],Lanes:=[],Owes:=false }
def hasQ (q:List DFrame) (f:DFrame):Prop:=∃ i,i<q.length∧(q.getD i default).Kind=f.Kind∧(q.getD i default).Id=f.Id
def lnOf (c:DConn) (id:Int):DLane:=c.Lanes.getD (lnIx c.Lanes id) default
def wOff (f:DFrame) (n:Int):DFrame:=⟨f.Kind,f.Id,n,f.Fin,f.Code,f.Ranges,f.Data⟩
def agF (c:DConn) (f:DFrame):DFrame:=if f.Kind=16 then wOff f c.Flow.Max else if f.Kind=18 then wOff f c.Grant else if f.Kind=17 then wOff f (lnOf c f.Id).In.Window else f
noncomputable def againR (c:DConn) (f:DFrame):List DFrame×Int:=
  if yes (hasQ c.Queue f)=true then (c.Queue,0)
  else if f.Kind=17∧(lnIx c.Lanes f.Id=c.Lanes.length∨(lnOf c f.Id).Over=true) then (c.Queue,0)
  else qTell c.Queue (agF c f)
def kAg (k:Int):Prop:=k=4∨k=16∨k=17∨k=18∨k=6∨k=7∨k=30
instance (k:Int):Decidable (kAg k):=inferInstanceAs (Decidable (_∨_))
noncomputable def lossR (c:DConn) (f:DFrame):List DLane×List DFrame×Int:=
  if f.Kind=8 then
    (if lnIx c.Lanes f.Id<c.Lanes.length then
      (if (lostR (lnOf c f.Id).Out f.Off f.Data.length f.Fin).2=0 then (c.Lanes.set (lnIx c.Lanes f.Id) { lnOf c f.Id with Out:=(lostR (lnOf c f.Id).Out f.Off f.Data.length f.Fin).1 },c.Queue,0) else (c.Lanes,c.Queue,(lostR (lnOf c f.Id).Out f.Off f.Data.length f.Fin).2))
     else (c.Lanes,c.Queue,0))
  else if kAg f.Kind then (c.Lanes,(againR c f).1,(againR c f).2)
  else (c.Lanes,c.Queue,0)
def cnLQ (c:DConn) (l:List DLane) (q:List DFrame):DConn:={ c with Lanes:=l,Queue:=q }
def cnP (c:DConn) (p:DPace):DConn:={ c with Pace:=p }
noncomputable def lossAll (c:DConn):List DFrame→DConn×Int
  | []=>(c,0)
  | f :: l=>if (lossR c f).2.2=0 then lossAll (cnLQ c (lossR c f).1 (lossR c f).2.1) l else (c,(lossR c f).2.2)
def pcLs (c:DConn) (p:DParcel) (now:Int):DPace:=(paceLostV c.Pace (min p.Size c.Pace.Flying) p.Time now).1
noncomputable def lostAll (now:Int) (c:DConn):List DParcel→DConn×Int
  | []=>(c,0)
  | p :: l=>if (lossAll (cnP c (pcLs c p now)) p.Frames).2=0 then lostAll now (lossAll (cnP c (pcLs c p now)) p.Frames).1 l else lossAll (cnP c (pcLs c p now)) p.Frames
def cnSp (c:DConn) (s:DSpace):DConn:={ c with Space:=s }
noncomputable def tickR (c:DConn) (now:Int):DConn×Int:=
  if cnFlt c=0 then (if 0≤now∧now≤1099511627776 then (if c.Closed=true then (c,0)
    else if 60≤now - c.Last then (cnQ (cnShut c 16) [],0)
    else if (lostAll now (cnSp c (spOver c.Space now 8).1) (spOver c.Space now 8).2.1).2=0 then ((lostAll now (cnSp c (spOver c.Space now 8).1) (spOver c.Space now 8).2.1).1,0)
    else (cnShut (lostAll now (cnSp c (spOver c.Space now 8).1) (spOver c.Space now 8).2.1).1 (lostAll now (cnSp c (spOver c.Space now 8).1) (spOver c.Space now 8).2.1).2,0)) else (default,6)) else (default,9)
theorem rSet_few:∀ {l:List DRange} {a m:Int},rSet a l→(∀ x ∈ l,x.Hi<m)→a<m→2 * (l.length:Int)≤m - a
  | [],a,m,_,_,ha=>by simp;omega
  | r :: l,a,m,h,hm,ha=>by
    have h1:=hm r List.mem_cons_self
    have hg:=h.1
    unfold rGood at hg
    have:=rSet_few (a:=r.Hi) h.2.2 (fun x hx=>hm x (List.mem_cons_of_mem _ hx)) h1
    have h2:=h.2.1
    rw [List.length_cons];omega
def okLs (l:List DLane):Prop:=∀ y ∈ l,W.wfLane y
theorem lostR_U {s:DSender} {off n:Int} {fin:Bool} (hw:U.wfSender s) (h0:(lostR s off n fin).2=0):U.wfSender (lostR s off n fin).1:=by
  unfold lostR at *
  by_cases hp0:partFlt s off n fin=0
  · obtain ⟨hok,hp⟩:=part_ok hp0
    obtain ⟨q1,q2,q3,q4⟩:=snd_facts hok hp
    rw [if_neg (by omega)]
    obtain ⟨w1,w2,w3,w4,w5,w6,w7⟩:=hw
    unfold lostS
    refine ⟨w1,w2,w3,?_,?_,w6,w7⟩
    · dsimp only
      by_cases hn0:0<n
      · rw [if_pos hn0]
        obtain ⟨g1,g2⟩:=hol_set q2 (q4 hn0) s.Acked.length (Nat.le_refl _)
        obtain ⟨_,_,h3⟩:=foldAdd (hol s.Acked ⟨off,off+n - 1⟩ s.Acked.length) q1 (fun x hx=>(rSet_good g1 x hx).1)
        have hh:=hok.1.1.1
        unfold sndHead at hh
        have f1:=rSet_few q1 ((lastLow_iff q1).1 hok.1.1.2) (by omega)
        have f2:=rSet_few q2 ((lastLow_iff q2).1 hok.1.2) (by omega)
        omega
      · rw [if_neg hn0];exact w4
    · dsimp only
      by_cases hn0:0<n
      · rw [if_pos hn0]
        obtain ⟨g1,g2⟩:=hol_set q2 (q4 hn0) s.Acked.length (Nat.le_refl _)
        obtain ⟨h1,_,h3⟩:=foldAdd (hol s.Acked ⟨off,off+n - 1⟩ s.Acked.length) q1 (fun x hx=>(rSet_good g1 x hx).1)
        intro y hy
        have hg:=(rSet_good h1 y hy).1
        unfold rGood at hg
        unfold U.wfRange I64;omega
      · rw [if_neg hn0];exact w5
  · rw [if_pos hp0] at h0
    exact absurd h0 hp0
end Go.Proofs.YtendheafcbickaaGreat


set_option linter.unusedVariables false
set_option linter.unusedSimpArgs false
set_option linter.unusedVariables false
namespace Go.Proofs.YtendheafcbickaaGreat
set_option maxRecDepth 100000
attribute [local irreducible] Run RunL QStep GStep Fn Less PL FnM
set_option maxHeartbeats 8000000 in
theorem endAgain_fnm (c:DConn) (f:DFrame) (hl:c.Lanes.length≤1000000) (hq:c.Queue.length≤12) :
    FnM Tryz.prog 233 [.ptr 0 0 0 0,.agg (encFrame f)] [(0,some (.box 116 (connC c (.own 1) (.own 2)))),(1,some (.row 134 16 (c.Lanes.map encLane))),(2,some (.row 111 7 (c.Queue.map encFrame)))] 3
      (.lit (.int .i64 (againR c f).2)) [(0,some (.box 116 (connC c (.own 1) (.own 3)))),(1,some (.row 134 16 (c.Lanes.map encLane))),(3,some (.row 111 7 ((againR c f).1.map encFrame)))] 4:=by
  have hT:=fun g=>endTell_fnm c g hq
  have hLn:=endLane_fnm c f.Id hl
  have hle:=lnIx_le c.Lanes f.Id
  generalize hR:againR c f=R
  obtain ⟨rq,re⟩:=R
  unfold againR agF at hR
  unfold lnP at hLn
  unfold lnOf at hR
  unfold connC at *
  obtain ⟨b0,space,pace,flow,credit,ids,grant,opened,lanes,b1,queue,last,resets,b2,code⟩:=c
  obtain ⟨kd,fid,foff,fin,fcode,frs,fdata⟩:=f
  unfold wOff at hR
  dsimp only at *
  refine fnm_of_run (by kernel_rfl) Tryz.func233 rfl (by kernel_rfl) (by rfl) ?_
  (repeat' first|(refine go_ ?_;((repeat' first|exact True.intro|refine Two.mk ?_ ?_);all_goals intros))|fail "")
  refine r_for (fun k:Nat=>⟨[(0,.ptr 0 0 0 0),(3,.ptr 3 0 0 0),(12,.own 4),(13,.lit (.int .i64 queue.length)),(14,.lit (.int .i64 k))],[(0,some (.box 116 [.lit (.bool b0),.lit (.int .i64 space.Next),.ro (space.Sent.map encParcel),.lit (.int .i64 space.Top),.ro (space.Heard.map encRange),.ro (space.Skip.map encI),.lit (.int .i64 pace.Window),.lit (.int .i64 pace.Thresh),.lit (.int .i64 pace.Flying),.lit (.int .i64 pace.Since),.lit (.int .i64 flow.Max),.lit (.int .i64 flow.Used),.lit (.int .i64 credit.Max),.lit (.int .i64 credit.Used),.lit (.int .i64 ids),.lit (.int .i64 grant),.lit (.int .i64 opened),.own 1,.lit (.bool b1),.own 4,.lit (.int .i64 last),.lit (.int .i64 resets),.lit (.bool b2),.lit (.int .i64 code)])),(1,some (.row 134 16 (lanes.map encLane))),(3,some (.box 111 [.lit (.int .i64 kd),.lit (.int .i64 fid),.lit (.int .i64 foff),.lit (.bool fin),.lit (.int .i64 fcode),.ro (frs.map encRange),.ro (fdata.map encB)])),(4,some (.row 111 7 (queue.map encFrame)))],5,Tryz.f233.ntmps⟩)
    (fun k=>k≤queue.length ∧ ∀ i,i<k → ¬ ((queue.getD i default).Kind=kd∧(queue.getD i default).Id=fid)) (fun k=>queue.length - k) 0 ⟨Nat.zero_le _,fun i h=>by omega⟩ (by first|exact mv_ 2|skip) ?_
  rintro k ⟨hk,hno⟩
  by_cases hkn:k<queue.length
  · by_cases he:(queue.getD k default).Kind=kd∧(queue.getD k default).Id=fid
    · rw [if_pos (yes_of ⟨k,hkn,he⟩)] at hR
      cases hR
      obtain ⟨e1,e2⟩:=he
      (repeat' first|(refine go_ ?_;((repeat' first|exact True.intro|refine Two.mk ?_ ?_);all_goals intros))|fail "")
      all_goals first
        | (exact endmA_)
        | (exfalso;omega)
        | skip
    · (repeat' first|(refine go_ ?_;((repeat' first|exact True.intro|refine Two.mk ?_ ?_);all_goals intros))|fail "")
      all_goals first
        | (refine ⟨k+1,?_,?_,?_⟩;rotate_left 2;(exact lessA_);(exact Z69_);(exact Z13_))
        | (exfalso;omega)
        | skip
  · have hkl:k=queue.length:=by omega
    subst hkl
    have hnq:¬ hasQ queue ⟨kd,fid,foff,fin,fcode,frs,fdata⟩:=fun ⟨i,hi,e⟩=>hno i hi e
    rw [if_neg (by rw [no_of hnq];exact Bool.false_ne_true)] at hR
    clear hno hkn hk hnq
    by_cases h16:kd=16
    · subst h16
      rw [if_neg (fun h=>by omega),if_pos rfl] at hR
      have hT:=hT ⟨16,fid,flow.Max,fin,fcode,frs,fdata⟩
      rw [hR] at hT
      (repeat' first|(refine s_callM [0,1,4] (hT) (h:=?_))|(refine p_callM [0,1,4] (hT) (h:=?_))|(refine go_ ?_;((repeat' first|exact True.intro|refine Two.mk ?_ ?_);all_goals intros))|fail "")
      all_goals first
        | (exact endmA_)
        | (exfalso;omega)
        | skip
    · by_cases h18:kd=18
      · subst h18
        rw [if_neg (fun h=>by omega),if_neg (by omega),if_pos rfl] at hR
        have hT:=hT ⟨18,fid,grant,fin,fcode,frs,fdata⟩
        rw [hR] at hT
        (repeat' first|(refine s_callM [0,1,4] (hT) (h:=?_))|(refine p_callM [0,1,4] (hT) (h:=?_))|(refine go_ ?_;((repeat' first|exact True.intro|refine Two.mk ?_ ?_);all_goals intros))|fail "")
        all_goals first
          | (exact endmA_)
          | (exfalso;omega)
          | skip
      · by_cases h17:kd=17
        · subst h17
          rw [if_neg h16,if_neg h18,if_pos rfl] at hR
          by_cases hx:lnIx lanes fid<lanes.length
          · rw [if_pos hx] at hLn
            have hin:lnIx lanes fid<(lanes.map encLane).length:=by rw [List.length_map];exact hx
            have hat:=eAt_map encLane hx
            generalize lnIx lanes fid=n at *
            cases hov:(lanes.getD n default).Over
            · rw [if_neg (fun h=>by rcases h.2 with h|h;omega;(rw [hov] at h;cases h))] at hR
              have hT:=hT ⟨17,fid,(lanes.getD n default).In.Window,fin,fcode,frs,fdata⟩
              rw [hR] at hT
              (repeat' first|(refine s_callM [0,1,4] (hLn) (h:=?_))|(refine p_callM [0,1,4] (hLn) (h:=?_))|refine s_i (hq:=q_nil_eql rfl rfl rfl rfl) (h:=?_)|(refine goI_ ?_;((repeat' first|exact True.intro|refine Two.mk ?_ ?_);all_goals intros))|refine s_i (h:=?_)|refine s_i (hq:=q_index_ro rfl rfl rfl (by first|exact lit0|exact lit1|exact lit2|rfl) (by simp only [List.length_cons,List.length_nil];omega) rfl rfl rfl rfl) (h:=?_)|refine p_i (h:=?_)|refine p_ih (h:=?_)|refine s_lit (h:=?_)|refine p_lit (h:=?_)|refine p_lit0 (h:=?_)|refine s_lit0 (h:=?_)|refine s_ixa (h:=?_)|refine s_insert (h:=?_)|(refine s_sadd rfl ?_ (h:=?_);(exact Z9_))|(refine p_sadd rfl ?_ (h:=?_);(exact Z9_))|fail "")
              all_goals (try rw [hov])
              all_goals (first|done|((repeat' first|(refine s_callM [0,1,4] (hT) (h:=?_))|(refine p_callM [0,1,4] (hT) (h:=?_))|(refine go_ ?_;((repeat' first|exact True.intro|refine Two.mk ?_ ?_);all_goals intros))|fail ""))|skip)
              all_goals first
                | (exact endmA_)
                | (exfalso;omega)
                | skip
            · rw [if_pos ⟨rfl,.inr hov⟩] at hR
              cases hR
              (repeat' first|(refine s_callM [0,1,4] (hLn) (h:=?_))|(refine p_callM [0,1,4] (hLn) (h:=?_))|refine s_i (hq:=q_nil_eql rfl rfl rfl rfl) (h:=?_)|(refine goI_ ?_;((repeat' first|exact True.intro|refine Two.mk ?_ ?_);all_goals intros))|refine s_i (h:=?_)|refine s_i (hq:=q_index_ro rfl rfl rfl (by first|exact lit0|exact lit1|exact lit2|rfl) (by simp only [List.length_cons,List.length_nil];omega) rfl rfl rfl rfl) (h:=?_)|refine p_i (h:=?_)|refine p_ih (h:=?_)|refine s_lit (h:=?_)|refine p_lit (h:=?_)|refine p_lit0 (h:=?_)|refine s_lit0 (h:=?_)|refine s_ixa (h:=?_)|refine s_insert (h:=?_)|(refine s_sadd rfl ?_ (h:=?_);(exact Z9_))|(refine p_sadd rfl ?_ (h:=?_);(exact Z9_))|fail "")
              all_goals (try rw [hov])
              all_goals (first|done|((repeat' first|(refine go_ ?_;((repeat' first|exact True.intro|refine Two.mk ?_ ?_);all_goals intros))|fail ""))|skip)
              all_goals first
                | (exact endmA_)
                | (exfalso;omega)
                | skip
          · rw [if_neg hx] at hLn
            rw [if_pos ⟨rfl,.inl (by omega)⟩] at hR
            cases hR
            (repeat' first|(refine s_callM [0,1,4] (hLn) (h:=?_))|(refine p_callM [0,1,4] (hLn) (h:=?_))|refine s_i (hq:=q_nil2_eql rfl rfl rfl rfl) (h:=?_)|(refine goI_ ?_;((repeat' first|exact True.intro|refine Two.mk ?_ ?_);all_goals intros))|refine s_i (h:=?_)|refine s_i (hq:=q_index_ro rfl rfl rfl (by first|exact lit0|exact lit1|exact lit2|rfl) (by simp only [List.length_cons,List.length_nil];omega) rfl rfl rfl rfl) (h:=?_)|refine p_i (h:=?_)|refine p_ih (h:=?_)|refine s_lit (h:=?_)|refine p_lit (h:=?_)|refine p_lit0 (h:=?_)|refine s_lit0 (h:=?_)|refine s_ixa (h:=?_)|refine s_insert (h:=?_)|(refine s_sadd rfl ?_ (h:=?_);(exact Z9_))|(refine p_sadd rfl ?_ (h:=?_);(exact Z9_))|fail "")
            all_goals first
              | (exact endmA_)
              | (exfalso;omega)
              | skip
        · rw [if_neg (fun h=>h17 h.1),if_neg h16,if_neg h18,if_neg h17] at hR
          have hT:=hT ⟨kd,fid,foff,fin,fcode,frs,fdata⟩
          rw [hR] at hT
          (repeat' first|(refine s_callM [0,1,4] (hT) (h:=?_))|(refine p_callM [0,1,4] (hT) (h:=?_))|(refine go_ ?_;((repeat' first|exact True.intro|refine Two.mk ?_ ?_);all_goals intros))|fail "")
          all_goals first
            | (exact endmA_)
            | (exfalso;omega)
            | skip
end Go.Proofs.YtendheafcbickaaGreat
