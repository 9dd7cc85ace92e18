/-
  SEVERAL TEXTS IN ONE: each with its own comment.
-/
import Derived.Test.YtendheafcbickaaGreatHZip
import Derived.Test.YtendheafcbickaaGreatHGo
import Derived.Test.YtendheafcbickaaGreatHMg16
import Derived.Test.YtendheafcbickaaGreatHCnF
import Derived.Test.YtendheafcbickaaGreatHCnFr
import Derived.Test.YtendheafcbickaaGreatHMg06
import Derived.Test.YtendheafcbickaaGreatHMg09
import Derived.Test.YtendheafcbickaaGreatHMg13
import Derived.Test.YtendheafcbickaaGreatHAbsB
import Derived.Test.YtendheafcbickaaGreatHRgsCut
import Derived.Test.YtendheafcbickaaGreatProg
import Derived.Shelf.SlSortFuncK.WholeK
import Derived.Shelf.GgSortFunc.Tiny
import Derived.Deep.QuietTactic
import Derived.WalkKit
import Derived.Test.YtendheafcbickaaGreatHMg12

set_option linter.unusedVariables false
set_option linter.unusedSimpArgs false
set_option linter.unusedVariables false
namespace Go.Proofs.YtendheafcbickaaGreat
set_option maxRecDepth 100000
attribute [local irreducible] Run RunL QStep GStep Fn Less PL FnM
def lnNew (id:Int):DLane:=⟨id,⟨0,[],-1,300⟩,[],false,false,⟨[],false,0,300,[],[],false,false⟩⟩
def cnOpened (c:DConn):DConn:={ c with Lanes:=c.Lanes++[lnNew c.Opened],Opened:=c.Opened+1 }
noncomputable def cnOpenR (c:DConn):DConn×Int×Int:=
  if cnFlt c=0 then (if c.Closed=true then (default,0,17) else if c.Client=false then (default,0,2) else if c.Opened ≥ c.Ids∨c.Lanes.length=4 then (default,0,8) else (cnOpened c,c.Opened,0)) else (default,0,9)
def encCnIE (r:DConn×Int×Int):V:=.tup [.agg (encConn r.1),.lit (.int .i64 r.2.1),.lit (.int .i64 r.2.2)]
def lnRaw (id:Int):List V:=[.lit (.int .i64 id),.lit (.int .i64 0),.lit (.slice none 0 0),.lit (.int .i64 (-1)),.lit (.int .i64 300),.lit (.slice none 0 0),.lit (.bool false),.lit (.bool false),.lit (.slice none 0 0),.lit (.bool false),.lit (.int .i64 0),.lit (.int .i64 300),.lit (.slice none 0 0),.lit (.slice none 0 0),.lit (.bool false),.lit (.bool false)]
def lnIx:List DLane→Int→Nat
  | [],_=>0
  | l :: r,id=>if l.Id=id then 0 else lnIx r id+1
theorem lnIx_le:∀ (l:List DLane) (id:Int),lnIx l id≤l.length
  | [],_=>Nat.le_refl _
  | l :: r,id=>by
    unfold lnIx
    split
    · simp
    · have:=lnIx_le r id;simp;omega
theorem lnIx_at:∀ (l:List DLane) (id:Int),lnIx l id<l.length→(l.getD (lnIx l id) default).Id=id
  | [],_,h=>by simp [lnIx] at h
  | l :: r,id,h=>by
    unfold lnIx at h ⊢
    split
    · rename_i e;simpa using e
    · rename_i e
      rw [if_neg e] at h
      have:=lnIx_at r id (by simpa using h)
      simpa using this
theorem lnIx_bef:∀ (l:List DLane) (id:Int) (k:Nat),k<lnIx l id→(l.getD k default).Id≠id
  | [],_,k,h=>by simp [lnIx] at h
  | l :: r,id,k,h=>by
    unfold lnIx at h
    split at h
    · omega
    · rename_i e
      cases k with
      | zero=>simpa using e
      | succ k=>simpa using lnIx_bef r id k (by omega)
theorem lnIx_of {l:List DLane} {id:Int} {k:Nat} (hk:k<l.length) (h1:k≤lnIx l id) (h2:(l.getD k default).Id=id):lnIx l id=k:=by
  rcases Nat.lt_or_ge k (lnIx l id) with h|h
  · exact absurd h2 (lnIx_bef l id k h)
  · omega
theorem lnIx_step {l:List DLane} {id:Int} {k:Nat} (hk:k<l.length) (h1:k≤lnIx l id) (h2:¬ (l.getD k default).Id=id):k+1≤lnIx l id:=by
  rcases Nat.lt_or_ge k (lnIx l id) with h|h
  · exact h
  · have e:lnIx l id=k:=by omega
    exact absurd (e ▸ lnIx_at l id (by omega)) h2
def lnP (l:List DLane) (id:Int):V:=if lnIx l id<l.length then .ptr 1 (lnIx l id) 16 0 else .lit (.pointer none)
set_option maxHeartbeats 4000000 in
theorem endLane_fnm (c:DConn) (id:Int) (hl:c.Lanes.length≤1000000) :
    FnM Tryz.prog 99 [.ptr 0 0 0 0,.lit (.int .i64 id)] [(0,some (.box 116 (connC c (.own 1) (.own 2)))),(1,some (.row 134 16 (c.Lanes.map encLane))),(2,some (.row 111 7 (c.Queue.map encFrame)))] 3
      (lnP c.Lanes id) [(0,some (.box 116 (connC c (.own 1) (.own 2)))),(1,some (.row 134 16 (c.Lanes.map encLane))),(2,some (.row 111 7 (c.Queue.map encFrame)))] 3:=by
  have hle:=lnIx_le c.Lanes id
  generalize hP:lnP c.Lanes id=R
  unfold lnP at hP
  unfold connC
  refine fnm_of_run (by kernel_rfl) Tryz.func99 rfl (by kernel_rfl) (by rfl) ?_
  (repeat' first|(refine go_ ?_;((repeat' first|exact True.intro|refine Two.mk ?_ ?_);all_goals intros))|fail "")
  refine r_for (fun k:Nat=>⟨[(0,.ptr 0 0 0 0),(1,.lit (.int .i64 id)),(11,.lit (.int .i64 c.Lanes.length)),(12,.lit (.int .i64 k))],[(0,some (.box 116 [.lit (.bool c.Client),.lit (.int .i64 c.Space.Next),.ro (c.Space.Sent.map encParcel),.lit (.int .i64 c.Space.Top),.ro (c.Space.Heard.map encRange),.ro (c.Space.Skip.map encI),.lit (.int .i64 c.Pace.Window),.lit (.int .i64 c.Pace.Thresh),.lit (.int .i64 c.Pace.Flying),.lit (.int .i64 c.Pace.Since),.lit (.int .i64 c.Flow.Max),.lit (.int .i64 c.Flow.Used),.lit (.int .i64 c.Credit.Max),.lit (.int .i64 c.Credit.Used),.lit (.int .i64 c.Ids),.lit (.int .i64 c.Grant),.lit (.int .i64 c.Opened),.own 1,.lit (.bool c.Owes),.own 2,.lit (.int .i64 c.Last),.lit (.int .i64 c.Resets),.lit (.bool c.Closed),.lit (.int .i64 c.Code)])),(1,some (.row 134 16 (c.Lanes.map encLane))),(2,some (.row 111 7 (c.Queue.map encFrame)))],3,Tryz.f99.ntmps⟩)
    (fun k=>k≤lnIx c.Lanes id) (fun k=>c.Lanes.length - k) 0 (Nat.zero_le _) (by (exact lessA_)) ?_
  intro k hk
  by_cases hkn:k<c.Lanes.length
  · by_cases he:(c.Lanes.getD k default).Id=id
    · have hx:=lnIx_of hkn hk he
      rw [hx,if_pos hkn] at hP
      subst hP
      (repeat' first|(refine go_ ?_;((repeat' first|exact True.intro|refine Two.mk ?_ ?_);all_goals intros))|fail "")
      all_goals first
        | (exact endmA_)
        | skip
    · have hx:=lnIx_step hkn hk he
      (repeat' first|(refine go_ ?_;((repeat' first|exact True.intro|refine Two.mk ?_ ?_);all_goals intros))|fail "")
      all_goals first
        | (refine ⟨k+1,?_,?_,?_⟩;rotate_left 2;(exact lessA_);(exact Z69_);(focus (exact hx)))
        | skip
  · have hkl:k=c.Lanes.length:=by omega
    rw [if_neg (by omega)] at hP
    subst hP
    subst hkl
    (repeat' first|(refine go_ ?_;((repeat' first|exact True.intro|refine Two.mk ?_ ?_);all_goals intros))|fail "")
    all_goals first
      | (exact endmA_)
      | skip
end Go.Proofs.YtendheafcbickaaGreat


set_option linter.unusedVariables false
set_option linter.unusedSimpArgs false
set_option linter.unusedVariables false
namespace Go.Proofs.YtendheafcbickaaGreat
set_option maxRecDepth 100000
attribute [local irreducible] Run RunL QStep GStep Fn Less PL FnM
theorem cn_room {c:DConn} (h:cnOk c):c.Lanes.length≤4∧c.Queue.length≤12∧0≤c.Opened∧c.Opened≤4611686018427387903:=by
  have:=h.1.1.1.2
  unfold cnNum at this
  omega
end Go.Proofs.YtendheafcbickaaGreat


set_option linter.unusedVariables false
set_option linter.unusedSimpArgs false
set_option linter.unusedVariables false
namespace Go.Proofs.YtendheafcbickaaGreat
set_option maxRecDepth 100000
attribute [local irreducible] Run RunL QStep GStep Fn Less PL FnM
def qSame (f x:DFrame):Prop:=x.Kind=f.Kind∧x.Id=f.Id∧f.Kind≠27
noncomputable def qIx:List DFrame→DFrame→Nat
  | [],_=>0
  | x :: r,f=>if yes (qSame f x)=true then 0 else qIx r f+1
noncomputable def qTell (l:List DFrame) (f:DFrame):List DFrame×Int:=if qIx l f<l.length then (l.set (qIx l f) f,0) else if l.length=12 then (l,8) else (l++[f],0)
def cnQ (c:DConn) (q:List DFrame):DConn:={ c with Queue:=q }
end Go.Proofs.YtendheafcbickaaGreat


set_option linter.unusedVariables false
set_option linter.unusedSimpArgs false
set_option linter.unusedVariables false
namespace Go.Proofs.YtendheafcbickaaGreat
set_option maxRecDepth 100000
attribute [local irreducible] Run RunL QStep GStep Fn Less PL FnM
def cnBegR (cl:Bool) (now:Int):DConn×Int:=if 0≤now∧now≤1099511627776 then (⟨cl,⟨0,[],-1,[],[]⟩,⟨400,0,0,-1⟩,⟨700,0⟩,⟨700,0⟩,(if cl=true then 4 else 0),(if cl=true then 0 else 4),0,[],false,[],now,0,false,0⟩,0) else (default,6)
def encCnE (r:DConn×Int):V:=.tup [.agg (encConn r.1),.lit (.int .i64 r.2)]
end Go.Proofs.YtendheafcbickaaGreat


set_option linter.unusedVariables false
set_option linter.unusedSimpArgs false
set_option linter.unusedVariables false
namespace Go.Proofs.YtendheafcbickaaGreat
set_option maxRecDepth 100000
attribute [local irreducible] Run RunL QStep GStep Fn Less PL FnM
def sndZ:DSender:=⟨[],false,0,0,[],[],false,false⟩
set_option maxHeartbeats 1000000 in
theorem senderFresh_fn (s:DSender) (hw:wfSender s):Fn Tryz.prog 205 [.agg (encSender s)] (.agg (encSender s)):=by
  have hl:=hw.1
  have hl2:=hw.2.2.2.1
  have hl3:=hw.2.2.2.2.2.1
  refine fn_of_run (by kernel_rfl) Tryz.func205 rfl (by kernel_rfl) ?_
  (repeat' first|(refine s_app (r:=s.Data.map encB) ?_ ?_ ?_ ?_ (h:=?_);(exact Z65_);(exact Z47_);(exact Z12_);(exact Z22_))|(refine s_app0R (r:=s.Data.map encB) ?_ ?_ ?_ ?_ (h:=?_);(exact Z65_);(exact Z47_);(exact Z12_);(exact Z22_))|(refine p_app (r:=s.Data.map encB) ?_ ?_ ?_ ?_ (h:=?_);(exact Z65_);(exact Z47_);(exact Z12_);(exact Z22_))|(refine s_app (r:=s.Lost.map encRange) ?_ ?_ ?_ ?_ (h:=?_);(exact Z65_);(exact Z47_);(exact Z12_);(exact Z22_))|(refine s_app0R (r:=s.Lost.map encRange) ?_ ?_ ?_ ?_ (h:=?_);(exact Z65_);(exact Z47_);(exact Z12_);(exact Z22_))|(refine p_app (r:=s.Lost.map encRange) ?_ ?_ ?_ ?_ (h:=?_);(exact Z65_);(exact Z47_);(exact Z12_);(exact Z22_))|(refine s_app (r:=s.Acked.map encRange) ?_ ?_ ?_ ?_ (h:=?_);(exact Z65_);(exact Z47_);(exact Z12_);(exact Z22_))|(refine s_app0R (r:=s.Acked.map encRange) ?_ ?_ ?_ ?_ (h:=?_);(exact Z65_);(exact Z47_);(exact Z12_);(exact Z22_))|(refine p_app (r:=s.Acked.map encRange) ?_ ?_ ?_ ?_ (h:=?_);(exact Z65_);(exact Z47_);(exact Z12_);(exact Z22_))|(refine go_ ?_;((repeat' first|exact True.intro|refine Two.mk ?_ ?_);all_goals intros))|fail "")
  all_goals first
    | (exact endwA_)
    | skip
end Go.Proofs.YtendheafcbickaaGreat


set_option linter.unusedVariables false
set_option linter.unusedSimpArgs false
set_option linter.unusedVariables false
namespace Go.Proofs.YtendheafcbickaaGreat
set_option maxRecDepth 100000
attribute [local irreducible] Run RunL QStep GStep Fn Less PL FnM
def partOk (s:DSender) (off n:Int) (fin:Bool):Prop:=(0≤off∧off≤s.Next∧0≤n∧n≤s.Next - off)∧(fin=true→s.Fin=true∧s.Next=s.Data.length∧off+n=s.Next)
noncomputable def partFlt (s:DSender) (off n:Int) (fin:Bool):Int:=if sndFlt s≠0 then sndFlt s else if yes (partOk s off n fin)=true then 0 else 13
def rZ:DRange:=⟨0,0⟩
end Go.Proofs.YtendheafcbickaaGreat


set_option linter.unusedVariables false
set_option linter.unusedSimpArgs false
set_option linter.unusedVariables false
namespace Go.Proofs.YtendheafcbickaaGreat
set_option maxRecDepth 100000
attribute [local irreducible] Run RunL QStep GStep Fn Less PL
def hol (l:List DRange) (r:DRange) (k:Nat):List DRange:=(l.take k).foldl rCut [r]
def rHoles (l:List DRange) (r:DRange):List DRange×Int:=if rgFlt l r≠0 then ([],rgFlt l r) else (hol l r l.length,0)
def hStep (r:DRange) (s:Int×List DRange) (x:DRange):Int×List DRange:=
  if x.Hi<r.Lo∨r.Hi<x.Lo then s else (x.Hi+1,s.2++(if s.1<x.Lo then [⟨s.1,x.Lo - 1⟩] else []))
def hSt (l:List DRange) (r:DRange) (k:Nat):Int×List DRange:=(l.take k).foldl (hStep r) (r.Lo,[])
def hEnd (r:DRange) (s:Int×List DRange):List DRange:=s.2++(if s.1≤r.Hi then [⟨s.1,r.Hi⟩] else [])
end Go.Proofs.YtendheafcbickaaGreat


set_option linter.unusedVariables false
set_option linter.unusedSimpArgs false
set_option linter.unusedVariables false
namespace Go.Proofs.YtendheafcbickaaGreat
def inL (l:List DRange) (n:Int):Prop:=∃ x ∈ l,x.Lo≤n∧n≤x.Hi
def rAdd:List DRange→DRange→List DRange
  | [],r=>[r]
  | x :: l,r=>if x.Hi+1<r.Lo then x :: rAdd l r else if r.Hi+1<x.Lo then r :: x :: l else rAdd l ⟨min r.Lo x.Lo,max r.Hi x.Hi⟩
def jn (c:DRange):List DRange→List DRange
  | []=>[c]
  | r :: m=>if r.Lo≤c.Hi+1 then jn ⟨c.Lo,max c.Hi r.Hi⟩ m else c :: jn r m
def jnd:List DRange→List DRange
  | []=>[]
  | x :: m=>jn x m
def sortL:Int→List DRange→Prop
  | _,[]=>True
  | a,x :: l=>a≤x.Lo∧sortL x.Lo l
def rAddR (l:List DRange) (r:DRange):List DRange×Int:=if rgFlt l r≠0 then ([],rgFlt l r) else (rAdd l r,0)
end Go.Proofs.YtendheafcbickaaGreat


set_option linter.unusedVariables false
set_option linter.unusedSimpArgs false
set_option linter.unusedVariables false
namespace Go.Proofs.YtendheafcbickaaGreat
set_option maxRecDepth 100000
attribute [local irreducible] Run RunL QStep GStep Fn Less PL FnM
structure AddSt where
  k:Nat
  r:DRange
  put:Bool
  out:List DRange
structure AddOk (l A:List DRange) (x:AddSt):Prop where
  k:x.k≤l.length
  r:rGood x.r
  no:x.put=false→x.out++rAdd (l.drop x.k) x.r=A∧x.out.length≤x.k
  yes:x.put=true→x.out++l.drop x.k=A∧x.out.length≤x.k+1∧rSet x.r.Hi (l.drop x.k)
end Go.Proofs.YtendheafcbickaaGreat


set_option linter.unusedVariables false
namespace Go.Proofs.YtendheafcbickaaGreat
open Go.Shelf
def sl6_ren:Go.Shelf.Ren:=⟨fun|6=>295|10=>309|11=>310|12=>311|13=>312|14=>313|24=>324|25=>325|26=>326|27=>327|28=>328|29=>329|30=>330|31=>331|32=>332|33=>333|34=>343|35=>344|36=>345|37=>346|38=>347|39=>354|n=>n,fun|20=>20|26=>108|35=>355|0=>0|37=>357|3=>3|41=>238|44=>362|49=>368|51=>22|4=>4|54=>372|53=>371|58=>376|5=>5|9=>9|60=>385|64=>389|66=>394|67=>395|17=>17|32=>352|33=>353|82=>412|12=>12|75=>405|76=>406|77=>407|78=>408|79=>409|80=>410|n=>n,fun|n=>n⟩
end Go.Proofs.YtendheafcbickaaGreat


set_option linter.unusedVariables false
set_option linter.unusedSimpArgs false
set_option linter.unusedVariables false
namespace Go.Proofs.YtendheafcbickaaGreat
open Go.Shelf Go.RowKit Go.Lib Go.Sort
set_option maxRecDepth 100000
def eR (r:DRange):List Value:=[.int .i64 r.Lo,.int .i64 r.Hi]
def ltR (a b:DRange):Bool:=decide (a.Lo<b.Lo)
noncomputable def srT:TypeInfo:=(Tryz.prog.info? 40).get (by kernel_rfl)
noncomputable def srE:TypeInfo:=(Tryz.prog.info? 146).get (by kernel_rfl)
end Go.Proofs.YtendheafcbickaaGreat


set_option linter.unusedVariables false
set_option linter.unusedSimpArgs false
set_option linter.unusedVariables false
namespace Go.Proofs.YtendheafcbickaaGreat
open Go.Shelf Go.RowKit Go.Lib Go.Sort
set_option maxRecDepth 100000
def cellsR (cur:Array Value) (l:List DRange):Prop:=∀ i j,i<l.length→j<2→cur[i * 2+j]? = some ((eR (l.getD i default)).getD j undef)
end Go.Proofs.YtendheafcbickaaGreat


set_option linter.unusedVariables false
set_option linter.unusedSimpArgs false
set_option linter.unusedVariables false
namespace Go.Proofs.YtendheafcbickaaGreat
set_option maxRecDepth 100000
attribute [local irreducible] Run RunL QStep GStep Fn Less PL FnM
def jStep (out:List DRange) (r:DRange):List DRange:=
  if out.length=0 then [r] else if r.Lo≤(out.getD (out.length - 1) default).Hi+1 then out.set (out.length - 1) ⟨(out.getD (out.length - 1) default).Lo,max (out.getD (out.length - 1) default).Hi r.Hi⟩ else out++[r]
def jOut (m:List DRange):List DRange:=m.foldl jStep []
end Go.Proofs.YtendheafcbickaaGreat


set_option linter.unusedVariables false
set_option linter.unusedSimpArgs false
set_option linter.unusedVariables false
namespace Go.Proofs.YtendheafcbickaaGreat
set_option maxRecDepth 100000
attribute [local irreducible] Run RunL QStep GStep Fn Less PL FnM
def heardS (s:DSender) (off n:Int) (fin:Bool):DSender:=
  { s with Lost:=if 0<n then rCut s.Lost ⟨off,off+n - 1⟩ else s.Lost,Acked:=if 0<n then rAdd s.Acked ⟨off,off+n - 1⟩ else s.Acked,Ended:=s.Ended && !fin,Over:=s.Over || fin }
noncomputable def heardR (s:DSender) (off n:Int) (fin:Bool):DSender×Int:=if partFlt s off n fin≠0 then (sndZ,partFlt s off n fin) else (heardS s off n fin,0)
def lostS (s:DSender) (off n:Int) (fin:Bool):DSender:=
  { s with Lost:=if 0<n then (hol s.Acked ⟨off,off+n - 1⟩ s.Acked.length).foldl rAdd s.Lost else s.Lost,Ended:=s.Ended && !fin }
noncomputable def lostR (s:DSender) (off n:Int) (fin:Bool):DSender×Int:=if partFlt s off n fin≠0 then (sndZ,partFlt s off n fin) else (lostS s off n fin,0)
def encSE (r:DSender×Int):V:=.tup [.agg (encSender r.1),.lit (.int .i64 r.2)]
end Go.Proofs.YtendheafcbickaaGreat
