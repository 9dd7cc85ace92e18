/-
  SEVERAL TEXTS IN ONE: each with its own comment.
-/
import Derived.Test.YtendheafcbickaaGreatHGo
import Derived.Test.YtendheafcbickaaGreatHMg18
import Derived.Test.YtendheafcbickaaGreatHMg21
import Derived.Test.YtendheafcbickaaGreatHMg33
import Derived.Test.YtendheafcbickaaGreatHMg20
import Derived.Test.YtendheafcbickaaGreatHMg06
import Derived.Test.YtendheafcbickaaGreatHMg27
import Derived.Test.YtendheafcbickaaGreatHAbsB
import Derived.Test.YtendheafcbickaaGreatHMg10
import Derived.Test.YtendheafcbickaaGreatHMg22

set_option linter.unusedVariables false
set_option linter.unusedSimpArgs false
set_option linter.unusedVariables false
namespace Go.Proofs.YtendheafcbickaaGreat
set_option maxRecDepth 100000
attribute [local irreducible] Run RunL QStep GStep Fn Less PL FnM
def clsRaw (e:Int):List V:=[.lit (.int .i64 28),.lit (.int .i64 0),.lit (.int .i64 0),.lit (.bool false),.lit (.int .i64 e),.lit (.slice none 0 0),.lit (.slice none 0 0)]
end Go.Proofs.YtendheafcbickaaGreat


set_option linter.unusedVariables false
set_option linter.unusedSimpArgs false
set_option linter.unusedVariables false
namespace Go.Proofs.YtendheafcbickaaGreat
set_option maxRecDepth 100000
def LI (B:Nat) (y:DLane):Prop:=I64 y.Id∧wfGather y.In∧gatherFlt y.In=0∧szP y.In.Held≤B∧U.wfSender y.Out∧(0≤y.Out.Next∧y.Out.Next≤y.Out.Data.length∧y.Out.Data.length≤600)∧y.Read.length≤800
structure HJ (c:DConn):Prop where
  op:0≤c.Opened∧c.Opened≤4611686018427387904
  gr:0≤c.Grant∧c.Grant≤4611686018427387903
  id:0≤c.Ids∧c.Ids≤4611686018427387903
  fl:flwOk c.Flow
  cr:flwOk c.Credit
  sp:U.wfSpace c.Space
  pc:wfPace c.Pace
  ls:0≤c.Last∧c.Last≤1099511627776
  rs:0≤c.Resets∧c.Resets≤4
  cd:I64 c.Code
structure HL (B:Nat) (c:DConn):Prop where
  l4:c.Lanes.length≤4
  asc:∀ i,i<c.Lanes.length→lnPrev c.Lanes i<(c.Lanes.getD i default).Id∧(c.Lanes.getD i default).Id<c.Opened
  ln:∀ y ∈ c.Lanes,LI B y
  q12:c.Queue.length≤12
  qw:∀ y ∈ c.Queue,U.wfFrame y
def HR (B:Nat) (r:DConn×Int):Prop:=HJ r.1∧I64 r.2∧(r.2=0→HL B r.1)
theorem LI_U {B:Nat} {y:DLane} (h:LI B y) (hB:B≤16777216):W.wfLane y:=by
  obtain ⟨h1,h2,h3,h4,h5,h6,h7⟩:=h
  obtain ⟨hh,_⟩:=flt_end h3
  unfold gHead at hh
  refine ⟨h1,⟨h2.1,by omega,fun p hp=>?_,h2.2.2.2.1,h2.2.2.2.2⟩,by omega,h5⟩
  have:=szP_mem hp
  exact ⟨(h2.2.2.1 p hp).1,by omega⟩
theorem HL.okLs {B:Nat} {c:DConn} (h:HL B c) (hB:B≤16777216):okLs c.Lanes:=fun y hy=>LI_U (h.ln y hy) hB
theorem HI_wf {B:Nat} {c:DConn} (hj:HJ c) (h:HL B c) (hB:B≤16777216):W.wfConn c:=by
  obtain ⟨j1,j2,j3,j4,j5,j6,j7,j8,j9,j10⟩:=hj
  unfold flwOk at j4 j5
  have h4:=h.l4
  have h12:=h.q12
  refine ⟨j6,j7,⟨by unfold I64;omega,by unfold I64;omega⟩,⟨by unfold I64;omega,by unfold I64;omega⟩,by unfold I64;omega,by unfold I64;omega,by unfold I64;omega,by omega,fun y hy=>LI_U (h.ln y hy) hB,by omega,h.qw,by unfold I64;omega,by unfold I64;omega,j10⟩
theorem asc_set {l:List DLane} {n:Nat} {y:DLane} {op:Int} (hn:n<l.length) (hy:y.Id=(l.getD n default).Id) (h:∀ i,i<l.length→lnPrev l i<(l.getD i default).Id∧(l.getD i default).Id<op) :
    ∀ i,i<(l.set n y).length→lnPrev (l.set n y) i<((l.set n y).getD i default).Id∧((l.set n y).getD i default).Id<op:=by
  have key:∀ i,((l.set n y).getD i default).Id=(l.getD i default).Id:=fun i=>by
    rw [List.getD_eq_getElem?_getD,List.getD_eq_getElem?_getD,List.getElem?_set]
    by_cases e:n=i
    · subst e
      rw [if_pos rfl,if_pos hn]
      rw [List.getD_eq_getElem?_getD] at hy
      exact hy
    · rw [if_neg e]
  intro i hi
  rw [List.length_set] at hi
  rw [key]
  have h1:=h i hi
  refine ⟨?_,h1.2⟩
  have h2:=h1.1
  unfold lnPrev at h2 ⊢
  split
  · rename_i h0;rw [if_pos h0] at h2;exact h2
  · rename_i h0;rw [if_neg h0] at h2;rw [key];exact h2
theorem HL_set {B:Nat} {c:DConn} {n:Nat} {y:DLane} (h:HL B c) (hn:n<c.Lanes.length) (hy:y.Id=(lnAt c n).Id) (hl:LI B y):HL B (cnSet c n y):=by
  refine ⟨by unfold cnSet;dsimp only;rw [List.length_set];exact h.l4,asc_set hn hy h.asc,fun z hz=>?_,h.q12,h.qw⟩
  rcases List.mem_or_eq_of_mem_set hz with hz|hz
  · exact h.ln z hz
  · exact hz ▸ hl
theorem HJ_set {c:DConn} {n:Nat} {y:DLane} (h:HJ c):HJ (cnSet c n y):=⟨h.op,h.gr,h.id,h.fl,h.cr,h.sp,h.pc,h.ls,h.rs,h.cd⟩
end Go.Proofs.YtendheafcbickaaGreat


set_option linter.unusedVariables false
set_option linter.unusedSimpArgs false
set_option linter.unusedVariables false
namespace Go.Proofs.YtendheafcbickaaGreat
set_option maxRecDepth 100000
attribute [local irreducible] Run RunL QStep GStep Fn Less PL FnM
def hdOk (l:List DLane):Prop:=∀ y ∈ l,U.wfSender y.Out∧(0≤y.Out.Next∧y.Out.Next≤y.Out.Data.length∧y.Out.Data.length≤600)
end Go.Proofs.YtendheafcbickaaGreat


set_option linter.unusedVariables false
set_option linter.unusedSimpArgs false
set_option linter.unusedVariables false
namespace Go.Proofs.YtendheafcbickaaGreat
set_option maxRecDepth 100000
attribute [local irreducible] Run RunL QStep GStep Fn Less PL FnM
def qL (l:List DRange) (top:Int) (p:DParcel):Bool:=decide (p.Number≤top - 3) && !insB l p.Number
def qR (l:List DRange) (top:Int) (p:DParcel):Bool:=!decide (p.Number≤top - 3) && !insB l p.Number
end Go.Proofs.YtendheafcbickaaGreat


set_option linter.unusedVariables false
set_option linter.unusedSimpArgs false
set_option linter.unusedVariables false
namespace Go.Proofs.YtendheafcbickaaGreat
set_option maxRecDepth 100000
attribute [local irreducible] Run RunL QStep GStep Fn Less PL FnM
def encEye (s:List UInt8) (u:Nat) (e:Int):List V:=[.ro (s.map encB),.lit (.int .i64 u),.lit (.int .i64 e)]
end Go.Proofs.YtendheafcbickaaGreat


set_option linter.unusedVariables false
set_option linter.unusedSimpArgs false
set_option linter.unusedVariables false
namespace Go.Proofs.YtendheafcbickaaGreat
set_option maxRecDepth 100000
attribute [local irreducible] Run RunL QStep GStep Fn Less PL FnM
def numR (s:List UInt8) (e:Int):Nat×List UInt8×Int:=
  if ¬ e=0 then (0,s,e) else if (varD s).2.2=0 then ((varD s).1,s.drop (varD s).2.1,0) else (0,s,4)
def takeR (n:Nat) (s:List UInt8) (e:Int):List UInt8×List UInt8×Int:=
  if ¬ e=0 then ([],s,e) else if s.length<n then ([],s,4) else (s.take n,s.drop n,0)
def failR (e c:Int):Int:=if e=0 then c else e
def encEyeA (A:Nat) (s:List UInt8) (e:Int):List V:=[.ro (s.map encB),.lit (.int .i64 ((A:Int) - (s.length:Int))),.lit (.int .i64 e)]
def rgIt (i:Nat) (hi:Int) (out:List DRange) (s:List UInt8) (e:Int):Int×List DRange×List UInt8×Int:=
  if i=0 then (hi,out++[⟨hi - (numR s e).1,hi⟩],(numR s e).2.1,if (numR s e).2.2=0∧hi - (numR s e).1<0 then 6 else (numR s e).2.2)
  else ((out.getD (i - 1) default).Lo - (numR s e).1 - 2,out++[⟨(out.getD (i - 1) default).Lo - (numR s e).1 - 2 - (numR (numR s e).2.1 (numR s e).2.2).1,(out.getD (i - 1) default).Lo - (numR s e).1 - 2⟩],
    (numR (numR s e).2.1 (numR s e).2.2).2.1,if (numR (numR s e).2.1 (numR s e).2.2).2.2=0∧(out.getD (i - 1) default).Lo - (numR s e).1 - 2 - (numR (numR s e).2.1 (numR s e).2.2).1<0 then 6 else (numR (numR s e).2.1 (numR s e).2.2).2.2)
def rgRun:Nat→Nat→Int→List DRange→List UInt8→Int→List DRange×List UInt8×Int
  | 0,_,_,out,s,e=>(out,s,e)
  | m+1,i,hi,out,s,e=>if ¬ e=0 then (out,s,e) else rgRun m (i+1) (rgIt i hi out s e).1 (rgIt i hi out s e).2.1 (rgIt i hi out s e).2.2.1 (rgIt i hi out s e).2.2.2
def rgGo (n:Nat) (hi:Int) (s:List UInt8) (e:Int):List DRange×List UInt8×Int:=
  if e=0∧6≤n then ([],s,1) else rgRun (n+1) 0 hi [] s e
def rgR (s:List UInt8) (e:Int):List DRange×List UInt8×Int:=
  rgGo (numR (numR s e).2.1 (numR s e).2.2).1 (numR s e).1 (numR (numR s e).2.1 (numR s e).2.2).2.1 (numR (numR s e).2.1 (numR s e).2.2).2.2
end Go.Proofs.YtendheafcbickaaGreat


set_option linter.unusedVariables false
set_option linter.unusedSimpArgs false
set_option linter.unusedVariables false
namespace Go.Proofs.YtendheafcbickaaGreat
set_option maxRecDepth 100000
attribute [local irreducible] Run RunL QStep GStep Fn Less PL FnM
abbrev FS:=DFrame×List UInt8×Int
def sRg (z:FS):FS:=({ z.1 with Ranges:=(rgR z.2.1 z.2.2).1 },(rgR z.2.1 z.2.2).2.1,(rgR z.2.1 z.2.2).2.2)
def sId (z:FS):FS:=({ z.1 with Id:=((numR z.2.1 z.2.2).1:Int) },(numR z.2.1 z.2.2).2.1,(numR z.2.1 z.2.2).2.2)
def sOf (z:FS):FS:=({ z.1 with Off:=((numR z.2.1 z.2.2).1:Int) },(numR z.2.1 z.2.2).2.1,(numR z.2.1 z.2.2).2.2)
def sCo (z:FS):FS:=({ z.1 with Code:=((numR z.2.1 z.2.2).1:Int) },(numR z.2.1 z.2.2).2.1,(numR z.2.1 z.2.2).2.2)
def sWo (z:FS):FS:=({ z.1 with Code:=IntKind.i64.wrap ((numG 0 (takeR 8 z.2.1 z.2.2).1:Nat):Int) },(takeR 8 z.2.1 z.2.2).2.1,(takeR 8 z.2.1 z.2.2).2.2)
def daE (z:FS):Int:=if 120<(numR z.2.1 z.2.2).1 then failR (numR z.2.1 z.2.2).2.2 1 else (numR z.2.1 z.2.2).2.2
def sDa (z:FS):FS:=({ z.1 with Data:=(takeR (numR z.2.1 z.2.2).1 (numR z.2.1 z.2.2).2.1 (daE z)).1 },(takeR (numR z.2.1 z.2.2).1 (numR z.2.1 z.2.2).2.1 (daE z)).2.1,(takeR (numR z.2.1 z.2.2).1 (numR z.2.1 z.2.2).2.1 (daE z)).2.2)
def optS (b:Bool) (f:FS→FS) (z:FS):FS:=if b=true then f z else z
def wcS (w c:Bool) (z:FS):FS:=if w=true then sWo z else optS c sCo z
def seqS (s:List UInt8) (z:FS):FS:=optS (hasI s 100) sDa (wcS (hasI s 119) (hasI s 99 || hasI s 119) (optS (hasI s 111) sOf (optS (hasI s 105) sId z)))
def frErr (e:Int):DFrame×Int×Int:=(⟨0,0,0,false,0,[],[]⟩,0,e)
def frFin (A:Nat) (z:FS):DFrame×Int×Int:=if ¬ z.2.2=0 then frErr z.2.2 else if ¬ frFlt z.1=0 then frErr (frFlt z.1) else (z.1,(A:Int) - (z.2.1.length:Int),0)
def frBody (A:Nat) (K:Int) (fin:Bool) (s:List UInt8):DFrame×Int×Int:=
  if kOk K=false then frErr 2 else frFin A (seqS (hasB K) (if K=2 then sRg (⟨K,0,0,fin,0,[],[]⟩,s,0) else (⟨K,0,0,fin,0,[],[]⟩,s,0)))
def frHead (A n:Nat) (s:List UInt8) (e:Int):DFrame×Int×Int:=
  if ¬ e=0 then frErr e else if n=8 then frErr 2 else frBody A (if n=14∨n=15 then 8 else n) (decide (n=15)) s
def frD (l:List UInt8):DFrame×Int×Int:=frHead l.length (numR l 0).1 (numR l 0).2.1 (numR l 0).2.2
def encFr (r:DFrame×Int×Int):V:=.tup [.agg (encFrame r.1),.lit (.int .i64 r.2.1),.lit (.int .i64 r.2.2)]
structure Good (A:Nat) (z:FS):Prop where
  k:I64 z.1.Kind
  i:I64 z.1.Id
  o:I64 z.1.Off
  c:I64 z.1.Code
  r:z.1.Ranges=[]
  d:z.1.Data=[]
  l:z.2.1.length≤A
def rgFits (l:List DRange):Prop:=∀ y,y ∈ l→wfRange y
end Go.Proofs.YtendheafcbickaaGreat


set_option linter.unusedVariables false
set_option linter.unusedSimpArgs false
set_option linter.unusedVariables false
namespace Go.Proofs.YtendheafcbickaaGreat
set_option maxRecDepth 100000
attribute [local irreducible] Run RunL QStep GStep Fn Less PL FnM
theorem frFlt_small {f:DFrame} (h:frFlt f=0):f.Data.length≤120∧f.Ranges.length≤6:=by
  unfold frFlt at h
  split at h
  · cases h
  split at h
  · cases h
  rename_i h1 h2
  omega
end Go.Proofs.YtendheafcbickaaGreat


set_option linter.unusedVariables false
set_option linter.unusedSimpArgs false
set_option linter.unusedVariables false
namespace Go.Proofs.YtendheafcbickaaGreat
set_option maxRecDepth 100000
def Kp (c C:DConn):Prop:=c.Lanes.length≤C.Lanes.length∧(∀ i,i<c.Lanes.length→(C.Lanes.getD i default).Id=(c.Lanes.getD i default).Id∧(C.Lanes.getD i default).Read=(c.Lanes.getD i default).Read)
  ∧ (∀ i,c.Lanes.length≤i→i<C.Lanes.length→c.Opened≤(C.Lanes.getD i default).Id∧(C.Lanes.getD i default).Read=[])∧c.Opened≤C.Opened
end Go.Proofs.YtendheafcbickaaGreat


set_option linter.unusedVariables false
set_option linter.unusedSimpArgs false
set_option linter.unusedVariables false
namespace Go.Proofs.YtendheafcbickaaGreat
set_option maxRecDepth 100000
theorem mem_at {l:List DLane} {y:DLane} (h:y ∈ l):∃ i,i<l.length∧l.getD i default=y:=by
  obtain ⟨i,hi,e⟩:=List.getElem_of_mem h
  exact ⟨i,hi,by rw [List.getD_eq_getElem?_getD,List.getElem?_eq_getElem hi];exact e⟩
theorem chk_I {c:DConn} (hc:cnFlt c=0) (hu:U.wfConn c):HJ c∧HL 4194304 c:=by
  obtain ⟨_,hk⟩ | ⟨h9,_⟩:=cnFlt_cases c
  · obtain ⟨⟨⟨⟨k1,k2⟩,k3⟩,k4⟩,k5⟩:=hk
    obtain ⟨a1,a2,a3,a4⟩:=k1
    unfold cnNum at k2
    obtain ⟨u1,u2,u3,u4,u5,u6,u7,u8,u9,u10,u11,u12,u13,u14⟩:=hu
    have f1:flwOk c.Flow:=Classical.byContradiction fun q=>by unfold flwFlt at a3;rw [if_neg q] at a3;exact absurd a3 (by decide)
    have f2:flwOk c.Credit:=Classical.byContradiction fun q=>by unfold flwFlt at a4;rw [if_neg q] at a4;exact absurd a4 (by decide)
    refine ⟨⟨by omega,by omega,by omega,f1,f2,u1,u2,by omega,by omega,u14⟩,⟨by omega,fun i hi=>⟨(k3 i hi).1,(k3 i hi).2.1⟩,fun y hy=>?_,by omega,u11⟩⟩
    obtain ⟨i,hi,e⟩:=mem_at hy
    obtain ⟨l1,l2,l3,l4,l5⟩:=k3 i hi
    rw [e] at l1 l2 l3 l4 l5
    obtain ⟨w1,w2,w3,w4⟩:=u9 y hy
    obtain ⟨hh,_⟩:=flt_end l3
    unfold gHead at hh
    have hs:sndOk y.Out:=by
      rcases sndFlt_cases y.Out with ⟨_,q⟩ | ⟨q,_⟩
      · exact q
      · rw [q] at l4;exact absurd l4 (by decide)
    have hs:=hs.1.1.1
    unfold sndHead at hs
    have hz:=szP_le (B:=1048576) (fun p hp=>by have:=(w2.2.2.1 p hp).2;omega:∀ p ∈ y.In.Held,p.Data.length≤1048576)
    have hz4:1048576 * y.In.Held.length≤1048576 * 4:=Nat.mul_le_mul_left _ hh.2.2.2.2
    exact ⟨w1,U.wf_leGather _ w2,l3,by omega,w4,by omega,l5⟩
  · rw [h9] at hc;exact absurd hc (by decide)
end Go.Proofs.YtendheafcbickaaGreat
