/-
  SEVERAL TEXTS IN ONE: each with its own comment.
-/
import Derived.Test.YtendheafcbickaaGreatHZip
import Derived.Test.YtendheafcbickaaGreatHGo
import Derived.Test.YtendheafcbickaaGreatHMg06
import Derived.Test.YtendheafcbickaaGreatHGtP
import Derived.Test.YtendheafcbickaaGreatHMg09
import Derived.Test.YtendheafcbickaaGreatHMg20
import Derived.Test.YtendheafcbickaaGreatHMg12
import Derived.Test.YtendheafcbickaaGreatHMg21
import Derived.Test.YtendheafcbickaaGreatHRgsCut
import Derived.Test.YtendheafcbickaaGreatHMg22

set_option linter.unusedVariables false
set_option linter.unusedSimpArgs false
set_option linter.unusedVariables false
namespace Go.Proofs.YtendheafcbickaaGreat
set_option maxRecDepth 100000
attribute [local irreducible] Run RunL QStep GStep Fn Less PL FnM
def paceSendV (p:DPace) (n:Int):DPace×Bool×Int:=
  if paceArg p [n]≠0 then (⟨0,0,0,0⟩,false,paceArg p [n])
  else if p.Window - p.Flying<n then (p,false,0)
  else (⟨p.Window,p.Thresh,p.Flying+n,p.Since⟩,true,0)
def encPB (r:DPace×Bool×Int):V:=.tup [.agg (encPace r.1),.lit (.bool r.2.1),.lit (.int .i64 r.2.2)]
theorem pSend_fn (p:DPace) (n:Int):Fn Tryz.prog 210 [.agg (encPace p),.lit (.int .i64 n)] (encPB (paceSendV p n)):=by
  have h1:=paceFault_fn p [n] (by simp)
  unfold paceSendV encPB
  by_cases h0:paceArg p [n]=0
  · obtain ⟨ho,hl⟩:=paceArg_ok h0
    rw [h0] at h1 ⊢
    rw [if_neg (by omega)]
    unfold paceOk at ho
    have ha:=hl n (by simp)
    unfold inM at ha
    refine fn_of_run (by kernel_rfl) Tryz.func210 rfl (by kernel_rfl) ?_
    (repeat' first|(refine s_call (h1) (h:=?_))|(refine p_call (h1) (h:=?_))|(refine go_ ?_;((repeat' first|exact True.intro|refine Two.mk ?_ ?_);all_goals intros))|fail "")
    all_goals (refine ends_ (hr:=?_))
    all_goals first
      | (rw [if_pos (by omega)];rfl)
      | (rw [if_neg (by omega)];rfl)
      | skip
  · rw [if_pos h0]
    generalize paceArg p [n]=e at *
    refine fn_of_run (by kernel_rfl) Tryz.func210 rfl (by kernel_rfl) ?_
    (repeat' first|(refine s_call (h1) (h:=?_))|(refine p_call (h1) (h:=?_))|(refine go_ ?_;((repeat' first|exact True.intro|refine Two.mk ?_ ?_);all_goals intros))|fail "")
    all_goals (refine ends_ (hr:=?_);rfl)
theorem pSent_fn (p:DPace) (hw:wfPace p) (n:Int):Fn Tryz.prog 223 [.agg (encPace p),.lit (.int .i64 n)] (encPB (paceSendV p n)):=by
  have h1:=paceFaultArgRef_fn p hw [n] (by simp)
  unfold paceSendV encPB
  by_cases h0:paceArg p [n]=0
  · obtain ⟨ho,hl⟩:=paceArg_ok h0
    rw [h0] at h1 ⊢
    rw [if_neg (by omega)]
    unfold paceOk at ho
    have ha:=hl n (by simp)
    unfold inM at ha
    refine fn_of_run (by kernel_rfl) Tryz.func223 rfl (by kernel_rfl) ?_
    (repeat' first|(refine s_call (h1) (h:=?_))|(refine p_call (h1) (h:=?_))|(refine go_ ?_;((repeat' first|exact True.intro|refine Two.mk ?_ ?_);all_goals intros))|fail "")
    all_goals (refine ends_ (hr:=?_))
    all_goals first
      | (rw [if_pos (by omega)];rfl)
      | (rw [if_neg (by omega)];rfl)
      | skip
  · rw [if_pos h0]
    generalize paceArg p [n]=e at *
    refine fn_of_run (by kernel_rfl) Tryz.func223 rfl (by kernel_rfl) ?_
    (repeat' first|(refine s_call (h1) (h:=?_))|(refine p_call (h1) (h:=?_))|(refine go_ ?_;((repeat' first|exact True.intro|refine Two.mk ?_ ?_);all_goals intros))|fail "")
    all_goals (refine ends_ (hr:=?_);rfl)
theorem fSpend_fn (f:DFlow) (n:Int) (h:flwOk f) (h0:0≤n) (h1:n≤f.Max - f.Used):Fn Tryz.prog 248 [.agg (encFlow f),.lit (.int .i64 n)] (.tup [.agg (encFlow ⟨f.Max,f.Used+n⟩),.lit (.int .i64 0)]):=by
  have hc:=flwCheck_fn f
  rw [flwFlt_t h] at hc
  unfold flwOk at h
  refine fn_of_run (by kernel_rfl) Tryz.func248 rfl (by kernel_rfl) ?_
  (repeat' first|(refine s_call (hc) (h:=?_))|(refine p_call (hc) (h:=?_))|(refine go_ ?_;((repeat' first|exact True.intro|refine Two.mk ?_ ?_);all_goals intros))|fail "")
  all_goals first
    | (exact endwA_)
    | skip
def szF (l:List DFrame):Int:=24+((frsB l).length:Int)
theorem szF_snoc (l:List DFrame) (f:DFrame):szF (l++[f])=szF l+((frB f).length:Int):=by
  unfold szF;rw [frsB_snoc,List.length_append];omega
theorem szF_one (f:DFrame):szF [f]=24+((frB f).length:Int):=by
  have:=szF_snoc [] f
  rw [List.nil_append] at this
  rw [this];unfold szF frsB;simp
theorem szF_le {l:List DFrame} (h:∀ f ∈ l,frFlt f=0):24≤szF l∧szF l≤24+1000 * (l.length:Int):=by
  have:=frsB_len h
  unfold szF;omega
theorem szF_take {l:List DFrame} {k:Nat} (hk:k<l.length):szF (l.take (k+1))=szF (l.take k)+((frB (l.getD k default)).length:Int):=by rw [take_snoc hk,szF_snoc]
set_option maxHeartbeats 1000000 in
theorem size_fn (l:List DFrame) (hw:∀ f ∈ l,wfFrame f) (h0:∀ f ∈ l,frFlt f=0) (hl:l.length≤1000000):Fn Tryz.prog 208 [.ro (l.map encFrame)] (.lit (.int .i64 (szF l))):=by
  refine fn_of_run (by kernel_rfl) Tryz.func208 rfl (by kernel_rfl) ?_
  (repeat' first|(refine go_ ?_;((repeat' first|exact True.intro|refine Two.mk ?_ ?_);all_goals intros))|fail "")
  refine r_for (fun k:Nat=>⟨[(3,.lit (.int .i64 (szF (l.take k)))),(8,.ro (l.map encFrame)),(9,.lit (.int .i64 l.length)),(10,.lit (.int .i64 k))],[],0,Tryz.f208.ntmps⟩)
    (fun k=>k≤l.length) (fun k=>l.length - k) 0 (Nat.zero_le _) (by (exact lessA_)) ?_
  intro k hk
  by_cases hkn:k<l.length
  · have hm:=getD_mem hkn
    have hz:=h0 _ hm
    have h1:=frameEncode_ok (l.getD k default) (hw _ hm) hz
    have hb:=frB_len hz
    have hs:=szF_take hkn
    have hb2:=szF_le (l:=l.take k) (fun f hf=>h0 f (List.mem_of_mem_take hf))
    rw [List.length_take] at hb2
    generalize szF (l.take k)=a at *
    (repeat' first|(refine s_call (h1) (h:=?_))|(refine p_call (h1) (h:=?_))|(refine go_ ?_;((repeat' first|exact True.intro|refine Two.mk ?_ ?_);all_goals intros))|fail "")
    all_goals first
      | (refine ⟨k+1,?_,?_,?_⟩;rotate_left 2;(exact lessA_);(exact Z69_);(exact Z67_))
      | skip
  · have hkl:k=l.length:=by omega
    subst hkl
    rw [List.take_length]
    (repeat' first|(refine go_ ?_;((repeat' first|exact True.intro|refine Two.mk ?_ ?_);all_goals intros))|fail "")
    all_goals first
      | (exact endwA_)
      | skip
set_option maxHeartbeats 1000000 in
theorem sizeOf_fn (l:List DFrame) (h0:∀ f ∈ l,frFlt f=0) (hl:l.length≤1000000):Fn Tryz.prog 220 [.ro (l.map encFrame)] (.lit (.int .i64 (szF l))):=by
  refine fn_of_run (by kernel_rfl) Tryz.func220 rfl (by kernel_rfl) ?_
  (repeat' first|(refine go_ ?_;((repeat' first|exact True.intro|refine Two.mk ?_ ?_);all_goals intros))|fail "")
  refine r_for (fun k:Nat=>⟨[(3,.lit (.int .i64 (szF (l.take k)))),(6,.ro (l.map encFrame)),(7,.lit (.int .i64 l.length)),(8,.lit (.int .i64 k))],[],0,Tryz.f220.ntmps⟩)
    (fun k=>k≤l.length) (fun k=>l.length - k) 0 (Nat.zero_le _) (by (exact lessA_)) ?_
  intro k hk
  by_cases hkn:k<l.length
  · have hm:=getD_mem hkn
    have hz:=h0 _ hm
    have h1:=frameText_fn (l.getD k default) hz
    have hb:=frB_len hz
    have hs:=szF_take hkn
    have hb2:=szF_le (l:=l.take k) (fun f hf=>h0 f (List.mem_of_mem_take hf))
    rw [List.length_take] at hb2
    generalize szF (l.take k)=a at *
    (repeat' first|(refine s_call (h1) (h:=?_))|(refine p_call (h1) (h:=?_))|(refine go_ ?_;((repeat' first|exact True.intro|refine Two.mk ?_ ?_);all_goals intros))|fail "")
    all_goals first
      | (refine ⟨k+1,?_,?_,?_⟩;rotate_left 2;(exact lessA_);(exact Z69_);(exact Z67_))
      | skip
  · have hkl:k=l.length:=by omega
    subst hkl
    rw [List.take_length]
    (repeat' first|(refine go_ ?_;((repeat' first|exact True.intro|refine Two.mk ?_ ?_);all_goals intros))|fail "")
    all_goals first
      | (exact endwA_)
      | skip
end Go.Proofs.YtendheafcbickaaGreat


set_option linter.unusedVariables false
set_option linter.unusedSimpArgs false
set_option linter.unusedVariables false
namespace Go.Proofs.YtendheafcbickaaGreat
set_option maxRecDepth 100000
attribute [local irreducible] Run RunL QStep GStep Fn Less PL
def overP (s:DSender):Prop:=s.Over=true∧(s.Data.length=0∨s.Acked=[DRange.mk 0 ((s.Data.length:Int) - 1)])
noncomputable def ovB (s:DSender):Bool:=yes (sndOk s∧overP s)
end Go.Proofs.YtendheafcbickaaGreat


set_option linter.unusedVariables false
set_option linter.unusedSimpArgs false
set_option linter.unusedVariables false
namespace Go.Proofs.YtendheafcbickaaGreat
set_option maxRecDepth 100000
attribute [local irreducible] Run RunL QStep GStep Fn Less PL FnM
def inR (n:Int) (r:DRange):Bool:=decide (r.Lo≤n) && decide (n≤r.Hi)
def insB (l:List DRange) (n:Int):Bool:=l.any (inR n)
end Go.Proofs.YtendheafcbickaaGreat


set_option linter.unusedVariables false
set_option linter.unusedSimpArgs false
set_option linter.unusedVariables false
namespace Go.Proofs.YtendheafcbickaaGreat
set_option maxRecDepth 100000
attribute [local irreducible] Run RunL QStep GStep Fn Less PL FnM
def akChk (nx:Int):List DRange→Int
  | []=>0
  | r :: l=>if r.Lo<0∨r.Hi<r.Lo then 3 else if nx≤r.Hi then 13 else akChk nx l
def topK (l:List DRange) (t:Int) (k:Nat):Int:=(l.take k).foldl (fun t r=>max t r.Hi) t
def akHeard (s:DSpace) (l:List DRange):List DParcel:=s.Sent.filter (fun p=>insB l p.Number)
def akRest (s:DSpace) (l:List DRange):List DParcel:=s.Sent.filter (fun p=>!insB l p.Number)
def akTop (s:DSpace) (l:List DRange):Int:=topK l s.Top l.length
def akErr (e:Int):V:=.tup [.agg (encSpace ⟨0,[],0,[],[]⟩),.ro [],.ro [],.lit (.int .i64 e)]
noncomputable def spAck (s:DSpace) (l:List DRange):DSpace×List DParcel×List DParcel×Int:=
  if spFlt s≠0 then (⟨0,[],0,[],[]⟩,[],[],spFlt s) else if akChk s.Next l≠0 then (⟨0,[],0,[],[]⟩,[],[],akChk s.Next l)
  else if s.Skip.any (insB l)=true then (⟨0,[],0,[],[]⟩,[],[],13)
  else (⟨s.Next,(akRest s l).filter (fun p=>!decide (p.Number≤akTop s l - 3)),akTop s l,s.Heard,s.Skip⟩,akHeard s l,(akRest s l).filter (fun p=>decide (p.Number≤akTop s l - 3)),0)
def encAck (r:DSpace×List DParcel×List DParcel×Int):V:=.tup [.agg (encSpace r.1),.ro (r.2.1.map encParcel),.ro (r.2.2.1.map encParcel),.lit (.int .i64 r.2.2.2)]
end Go.Proofs.YtendheafcbickaaGreat


set_option linter.unusedVariables false
set_option linter.unusedSimpArgs false
set_option linter.unusedVariables false
namespace Go.Proofs.YtendheafcbickaaGreat
set_option maxRecDepth 100000
attribute [local irreducible] Run RunL QStep GStep Fn Less PL FnM
noncomputable def rNote (l:List DRange) (n:Int):List DRange×Bool×Int:=
  if rgFlt l ⟨n,n⟩≠0 then ([],false,rgFlt l ⟨n,n⟩) else ((rAdd l ⟨n,n⟩).drop ((rAdd l ⟨n,n⟩).length - 6),!(yes (inL l n)),0)
end Go.Proofs.YtendheafcbickaaGreat


set_option linter.unusedVariables false
set_option linter.unusedSimpArgs false
set_option linter.unusedVariables false
namespace Go.Proofs.YtendheafcbickaaGreat
set_option maxRecDepth 100000
attribute [local irreducible] Run RunL QStep GStep Fn Less PL FnM
def spZ:DSpace:=⟨0,[],0,[],[]⟩
noncomputable def spHear (s:DSpace) (n:Int):DSpace×Bool×Int:=
  if spFlt s≠0 then (spZ,false,spFlt s) else if ¬ (0≤n∧n≤4611686018427387903) then (spZ,false,6)
  else if s.Heard.length=6∧n<(s.Heard.getD 0 default).Lo then (s,false,0)
  else (⟨s.Next,s.Sent,s.Top,(rNote s.Heard n).1,s.Skip⟩,(rNote s.Heard n).2.1,0)
def encSH (r:DSpace×Bool×Int):V:=.tup [.agg (encSpace r.1),.lit (.bool r.2.1),.lit (.int .i64 r.2.2)]
end Go.Proofs.YtendheafcbickaaGreat


set_option linter.unusedVariables false
set_option linter.unusedSimpArgs false
set_option linter.unusedVariables false
namespace Go.Proofs.YtendheafcbickaaGreat
set_option maxRecDepth 100000
def flwSpV (f:DFlow) (n:Int):DFlow×Int:=if flwOk f then (if n<0 then (⟨0,0⟩,6) else if f.Max - f.Used<n then (⟨0,0⟩,11) else (⟨f.Max,f.Used+n⟩,0)) else (⟨0,0⟩,9)
def flwGrV (f:DFlow) (n:Int):DFlow×Int:=if flwOk f then (if n<0∨4611686018427387903<n then (⟨0,0⟩,6) else (⟨max f.Max n,f.Used⟩,0)) else (⟨0,0⟩,9)
def paceHeardV (p:DPace) (n s:Int):DPace×Int:=
  if paceArg p [n,s]≠0 then (⟨0,0,0,0⟩,paceArg p [n,s])
  else if p.Flying<n then (⟨0,0,0,0⟩,13)
  else if s≤p.Since then (⟨p.Window,p.Thresh,p.Flying - n,p.Since⟩,0)
  else (⟨min (if p.Thresh=0∨p.Window<p.Thresh then p.Window+n else p.Window+100 * n / p.Window) 1099511627776,p.Thresh,p.Flying - n,p.Since⟩,0)
def opTo:Nat→DConn→Int→DConn×Int
  | 0,c,id=>(c,if c.Opened≤id then 8 else 0)
  | n+1,c,id=>if c.Opened≤id then opTo n (cnOpened c) id else (c,0)
def knR (c:DConn) (id:Int):DConn×Int:=
  if c.Client=true then (c,if c.Opened≤id then 5 else 0) else if c.Grant≤id then (c,11) else opTo (4 - c.Lanes.length) c id
def cnFw (c:DConn) (f:DFlow):DConn:={ c with Flow:=f }
def lnAt (c:DConn) (n:Nat):DLane:=c.Lanes.getD n default
def strL (c:DConn) (n:Nat) (f:DFrame):DConn×Int:=
  if (lnAt c n).Cut=true then (c,0)
  else if (putR (lnAt c n).In f.Off f.Data f.Fin).2≠0 then (c,(putR (lnAt c n).In f.Off f.Data f.Fin).2)
  else if (flwSpV c.Flow (gReach (putR (lnAt c n).In f.Off f.Data f.Fin).1 - gReach (lnAt c n).In)).2≠0 then (c,(flwSpV c.Flow (gReach (putR (lnAt c n).In f.Off f.Data f.Fin).1 - gReach (lnAt c n).In)).2)
  else if 800<((lnAt c n).Read++(gTake (putR (lnAt c n).In f.Off f.Data f.Fin).1).2.1).length then (cnFw c (flwSpV c.Flow (gReach (putR (lnAt c n).In f.Off f.Data f.Fin).1 - gReach (lnAt c n).In)).1,1)
  else (cnSet (cnFw c (flwSpV c.Flow (gReach (putR (lnAt c n).In f.Off f.Data f.Fin).1 - gReach (lnAt c n).In)).1) n { lnAt c n with In:=(gTake (putR (lnAt c n).In f.Off f.Data f.Fin).1).1,Read:=(lnAt c n).Read++(gTake (putR (lnAt c n).In f.Off f.Data f.Fin).1).2.1,Over:=(gTake (putR (lnAt c n).In f.Off f.Data f.Fin).1).2.2.1 },0)
def cnRs (c:DConn) (n:Int):DConn:={ c with Resets:=n }
def rstL (c:DConn) (n:Nat) (f:DFrame):DConn×Int:=
  if (lnAt c n).Cut=true then (c,0)
  else if f.Off<gReach (lnAt c n).In∨(0≤(lnAt c n).In.Final∧(lnAt c n).In.Final≠f.Off) then (c,12)
  else if (lnAt c n).In.Window<f.Off then (c,11)
  else if (flwSpV c.Flow (f.Off - gReach (lnAt c n).In)).2≠0 then (c,(flwSpV c.Flow (f.Off - gReach (lnAt c n).In)).2)
  else if c.Resets=4 then (cnFw c (flwSpV c.Flow (f.Off - gReach (lnAt c n).In)).1,8)
  else (cnSet (cnRs (cnFw c (flwSpV c.Flow (f.Off - gReach (lnAt c n).In)).1) (c.Resets+1)) n { lnAt c n with Cut:=true,Over:=true,In:=⟨f.Off,[],f.Off,(lnAt c n).In.Window⟩ },0)
def rsF (id off code:Int):DFrame:=⟨4,id,off,false,code,[],[]⟩
def stS (s:DSender):DSender:=⟨List.replicate s.Next.toNat 0,true,s.Next,max s.Max s.Next,[],if 0<s.Next then [⟨0,s.Next - 1⟩] else [],false,true⟩
noncomputable def stpL (c:DConn) (n:Nat) (f:DFrame):DConn×Int:=
  if ovB (lnAt c n).Out=true then (c,0)
  else (cnQ (cnSet c n { lnAt c n with Out:=stS (lnAt c n).Out }) (qTell c.Queue (rsF f.Id (lnAt c n).Out.Next f.Code)).1,(qTell c.Queue (rsF f.Id (lnAt c n).Out.Next f.Code)).2)
noncomputable def moL (c:DConn) (n:Nat) (f:DFrame):DConn×Int:=
  if (grR (lnAt c n).Out f.Off).2=0 then (cnSet c n { lnAt c n with Out:=(grR (lnAt c n).Out f.Off).1 },0) else (c,(grR (lnAt c n).Out f.Off).2)
noncomputable def onLane (g:DConn→Nat→DFrame→DConn×Int) (c:DConn) (f:DFrame):DConn×Int:=
  if (knR c f.Id).2=0 then (if lnIx (knR c f.Id).1.Lanes f.Id<(knR c f.Id).1.Lanes.length then g (knR c f.Id).1 (lnIx (knR c f.Id).1.Lanes f.Id) f else ((knR c f.Id).1,0)) else ((knR c f.Id).1,(knR c f.Id).2)
noncomputable def hdFr (c:DConn) (x:DFrame):DConn×Int:=
  if x.Kind=8∧lnIx c.Lanes x.Id<c.Lanes.length then (if (heardR (lnOf c x.Id).Out x.Off x.Data.length x.Fin).2=0 then (cnSet c (lnIx c.Lanes x.Id) { lnOf c x.Id with Out:=(heardR (lnOf c x.Id).Out x.Off x.Data.length x.Fin).1 },0) else (c,(heardR (lnOf c x.Id).Out x.Off x.Data.length x.Fin).2)) else (c,0)
noncomputable def hdFrs:DConn→List DFrame→DConn×Int
  | c,[]=>(c,0)
  | c,f :: l=>if (hdFr c f).2=0 then hdFrs (hdFr c f).1 l else hdFr c f
def pcHd (c:DConn) (p:DParcel):DPace:=(paceHeardV c.Pace (min p.Size c.Pace.Flying) p.Time).1
noncomputable def hdAll:DConn→List DParcel→DConn×Int
  | c,[]=>(c,0)
  | c,p :: l=>if (hdFrs (cnP c (pcHd c p)) p.Frames).2=0 then hdAll (hdFrs (cnP c (pcHd c p)) p.Frames).1 l else hdFrs (cnP c (pcHd c p)) p.Frames
noncomputable def ackR (c:DConn) (f:DFrame) (now:Int):DConn×Int:=
  if (spAck c.Space f.Ranges).2.2.2=0 then (if (hdAll (cnSp c (spAck c.Space f.Ranges).1) (spAck c.Space f.Ranges).2.1).2=0 then lostAll now (hdAll (cnSp c (spAck c.Space f.Ranges).1) (spAck c.Space f.Ranges).2.1).1 (spAck c.Space f.Ranges).2.2.1 else hdAll (cnSp c (spAck c.Space f.Ranges).1) (spAck c.Space f.Ranges).2.1) else (c,(spAck c.Space f.Ranges).2.2.2)
def cnCr (c:DConn) (f:DFlow):DConn:={ c with Credit:=f }
def cnId (c:DConn) (n:Int):DConn:={ c with Ids:=n }
def cnOv (c:DConn) (code:Int):DConn:={ c with Closed:=true,Code:=code,Queue:=[],Lanes:=[],Owes:=false }
def rpF (code:Int):DFrame:=⟨27,0,0,false,code,[],[]⟩
noncomputable def frmR (c:DConn) (f:DFrame) (now:Int):DConn×Int:=
  if f.Kind=2 then ackR c f now
  else if f.Kind=8 then onLane strL c f
  else if f.Kind=4 then onLane rstL c f
  else if f.Kind=5 then onLane stpL c f
  else if f.Kind=16 then (cnCr c (flwGrV c.Credit f.Off).1,(flwGrV c.Credit f.Off).2)
  else if f.Kind=17 then onLane moL c f
  else if f.Kind=18 then (if c.Client=true then cnId c (max c.Ids f.Off) else c,0)
  else if f.Kind=26 then (cnQ c (qTell c.Queue (rpF f.Code)).1,(qTell c.Queue (rpF f.Code)).2)
  else if f.Kind=28 then (cnOv c f.Code,0)
  else (c,0)
def woF (id off:Int):DFrame:=⟨17,id,off,false,0,[],[]⟩
def wdOf (g:DGather):DGather:=(gWiden g (min (g.Done+300) 4611686018427387903)).1
noncomputable def wdOne (c:DConn) (n:Nat):DConn×Int:=
  if (lnAt c n).Over=false∧(lnAt c n).In.Window - (lnAt c n).In.Done<150 then
    (cnQ (cnSet c n { lnAt c n with In:=wdOf (lnAt c n).In }) (qTell c.Queue (woF (lnAt c n).Id (wdOf (lnAt c n).In).Window)).1,(qTell c.Queue (woF (lnAt c n).Id (wdOf (lnAt c n).In).Window)).2)
  else (c,0)
noncomputable def wdAll:Nat→Nat→DConn→DConn×Int
  | 0,_,c=>(c,0)
  | m+1,k,c=>if (wdOne c k).2=0 then wdAll m (k+1) (wdOne c k).1 else wdOne c k
def wmF (off:Int):DFrame:=⟨16,0,off,false,0,[],[]⟩
def wfOf (f:DFlow):DFlow:=(flwGrV f (min (f.Used+700) 4611686018427387903)).1
noncomputable def grsR (c:DConn):DConn×Int:=
  if (wdAll c.Lanes.length 0 c).2=0 then
    (if (wdAll c.Lanes.length 0 c).1.Flow.Max - (wdAll c.Lanes.length 0 c).1.Flow.Used<350 then
      (cnQ (cnFw (wdAll c.Lanes.length 0 c).1 (wfOf (wdAll c.Lanes.length 0 c).1.Flow)) (qTell (wdAll c.Lanes.length 0 c).1.Queue (wmF (wfOf (wdAll c.Lanes.length 0 c).1.Flow).Max)).1,(qTell (wdAll c.Lanes.length 0 c).1.Queue (wmF (wfOf (wdAll c.Lanes.length 0 c).1.Flow).Max)).2)
     else ((wdAll c.Lanes.length 0 c).1,0))
  else wdAll c.Lanes.length 0 c
def cnOw (c:DConn) (b:Bool):DConn:={ c with Owes:=b }
def owB (k:Int):Bool:=decide (k≠2) && (decide (k≠0) && decide (k≠28))
noncomputable def frsR (now:Int):DConn→List DFrame→DConn×Int
  | c,[]=>(c,0)
  | c,f :: l=>if (frmR (cnOw c (c.Owes || owB f.Kind)) f now).2=0∧(frmR (cnOw c (c.Owes || owB f.Kind)) f now).1.Closed=false then frsR now (frmR (cnOw c (c.Owes || owB f.Kind)) f now).1 l else frmR (cnOw c (c.Owes || owB f.Kind)) f now
def cnLt (c:DConn) (n:Int):DConn:={ c with Last:=n }
noncomputable def frsE:List DFrame→Int
  | []=>0
  | f :: l=>if frFlt f=0 then frsE l else frFlt f
noncomputable def hearB (c:DConn) (now:Int) (l:List DFrame):DConn:=
  if (frsR now c l).2=0 then (if (frsR now c l).1.Closed=true then (frsR now c l).1 else if (grsR (frsR now c l).1).2=0 then (grsR (frsR now c l).1).1 else cnShut (grsR (frsR now c l).1).1 (grsR (frsR now c l).1).2) else cnShut (frsR now c l).1 (frsR now c l).2
noncomputable def hearR (c:DConn) (now number:Int) (l:List DFrame):DConn×Bool×Int:=
  if cnFlt c=0 then (if 0≤now∧now≤1099511627776∧l.length≤12 then (if frsE l=0 then (if c.Closed=true then (default,false,17)
    else if (spHear c.Space number).2.2≠0 then (default,false,(spHear c.Space number).2.2)
    else if (spHear c.Space number).2.1=false then (c,false,0)
    else (hearB (cnLt (cnSp c (spHear c.Space number).1) (max now c.Last)) (max now c.Last) l,true,0))
    else (default,false,frsE l)) else (default,false,6)) else (default,false,9)
end Go.Proofs.YtendheafcbickaaGreat
