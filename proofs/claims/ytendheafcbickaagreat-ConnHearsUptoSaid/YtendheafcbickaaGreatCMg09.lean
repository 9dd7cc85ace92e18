/-
  SEVERAL TEXTS IN ONE: each with its own comment.
-/
import Derived.Test.YtendheafcbickaaGreatCAbsB
set_option linter.unusedVariables false
set_option linter.unusedSimpArgs false
namespace Go.Proofs.YtendheafcbickaaGreat
variable {Q:Nat->Prop} {k:Nat} {α:Type}
section
open Go.RowKit
def aE (x:Int):Prop:=-9223372036854775808<=x/\x<=9223372036854775807
def og (x:Int):Prop:=0<=x/\x<=18446744073709551615
def encI (n:Int):List V:=[I n]
def encS (l:List UInt8):List V:=[.ro (l.map bm)]
structure aK where
 bE:Int
 bz:Int
instance:Inhabited aK:=⟨⟨0,0⟩⟩
theorem BI {a b:aK} (ai:a.bE=b.bE) (J:a.bz=b.bz):a=b:=by
 cases a;cases b;dsimp only at *;subst_vars;rfl
def aB (x:aK):List V:=[I x.bE,I x.bz]
def fB (x:aK):Prop:=aE x.bE/\aE x.bz
structure hz where
 Max:Int
 bG:Int
instance:Inhabited hz:=⟨⟨0,0⟩⟩
def pG (x:hz):List V:=[I x.Max,I x.bG]
def oe (x:hz):Prop:=aE x.Max/\aE x.bG
structure gA where
 bj:Int
 dy:Int
 c0:Int
 Since:Int
instance:Inhabited gA:=⟨⟨0,0,0,0⟩⟩
def nz (x:gA):List V:=[I x.bj,I x.dy,I x.c0,I x.Since]
def h2 (x:gA):Prop:=aE x.bj/\aE x.dy/\aE x.c0/\aE x.Since
structure rm where
 sN:Bool
 qG:Int
 aR:Int
instance:Inhabited rm:=⟨⟨false,0,0⟩⟩
def Qg (x:rm):List V:=[ab x.sN,I x.qG,I x.aR]
def nF (x:rm):Prop:=aE x.qG/\aE x.aR
structure ve where
 Name:List UInt8
 Value:List UInt8
instance:Inhabited ve:=⟨⟨[],[]⟩⟩
def Jp (x:ve):List V:=[.lit (.string (c7 x.Name)),.lit (.string (c7 x.Value))]
def vd (x:ve):Prop:=x.Name.length<=140737488351232/\x.Value.length<=140737488351232
structure bA where
 aP:Int
 Data:List UInt8
instance:Inhabited bA:=⟨⟨0,[]⟩⟩
theorem Yj {a b:bA} (ai:a.aP=b.aP) (J:a.Data=b.Data):a=b:=by
 cases a;cases b;dsimp only at *;subst_vars;rfl
def b5 (x:bA):List V:=[I x.aP,.ro (x.Data.map bm)]
def iY (x:bA):Prop:=aE x.aP/\x.Data.length * 1<=140737488351232
structure dQ where
 bQ:Int
 aD:List bA
 c8:Int
 bj:Int
instance:Inhabited dQ:=⟨⟨0,[],0,0⟩⟩
def e5 (x:dQ):List V:=[I x.bQ,.ro (x.aD.map b5),I x.c8,I x.bj]
def ga (x:dQ):Prop:=aE x.bQ/\x.aD.length * 32<=140737488351232/\(∀ y,y ∈ x.aD->iY y)/\aE x.c8/\aE x.bj
structure ee where
 Data:List UInt8
 Fin:Bool
 Next:Int
 Max:Int
 cO:List aK
 cI:List aK
 fo:Bool
 Over:Bool
instance:Inhabited ee:=⟨⟨[],false,0,0,[],[],false,false⟩⟩
def fc (x:ee):List V:=[.ro (x.Data.map bm),ab x.Fin,I x.Next,I x.Max,.ro (x.cO.map aB),.ro (x.cI.map aB),ab x.fo,ab x.Over]
def hg (x:ee):Prop:=x.Data.length * 1<=140737488351232/\aE x.Next/\aE x.Max/\x.cO.length * 16<=140737488351232/\(∀ y,y ∈ x.cO->fB y)/\x.cI.length * 16<=140737488351232/\(∀ y,y ∈ x.cI->fB y)
structure bo where
 Kind:Int
 Id:Int
 aP:Int
 Fin:Bool
 Code:Int
 ec:List aK
 Data:List UInt8
instance:Inhabited bo:=⟨⟨0,0,0,false,0,[],[]⟩⟩
theorem Yk {a b:bo} (ai:a.Kind=b.Kind) (J:a.Id=b.Id) (aa:a.aP=b.aP) (az:a.Fin=b.Fin) (bk:a.Code=b.Code) (dG:a.ec=b.ec) (h9:a.Data=b.Data):a=b:=by
 cases a;cases b;dsimp only at *;subst_vars;rfl
def aO (x:bo):List V:=[I x.Kind,I x.Id,I x.aP,ab x.Fin,I x.Code,.ro (x.ec.map aB),.ro (x.Data.map bm)]
def dx (x:bo):Prop:=aE x.Kind/\aE x.Id/\aE x.aP/\aE x.Code/\x.ec.length * 16<=140737488351232/\(∀ y,y ∈ x.ec->fB y)/\x.Data.length * 1<=140737488351232
structure lQ where
 Kind:Int
 nO:Int
 nP:Int
 oz:List UInt8
 Number:Int
 hG:Int
instance:Inhabited lQ:=⟨⟨0,0,0,[],0,0⟩⟩
def Jq (x:lQ):List V:=[I x.Kind,I x.nO,I x.nP,.ro (x.oz.map bm),I x.Number,I x.hG]
def HV (x:lQ):Prop:=aE x.Kind/\aE x.nO/\aE x.nP/\x.oz.length * 1<=140737488351232/\aE x.Number/\aE x.hG
structure eN where
 Number:Int
 Time:Int
 hG:Int
 Frames:List bo
instance:Inhabited eN:=⟨⟨0,0,0,[]⟩⟩
theorem Yl {a b:eN} (ai:a.Number=b.Number) (J:a.Time=b.Time) (aa:a.hG=b.hG) (az:a.Frames=b.Frames):a=b:=by
 cases a;cases b;dsimp only at *;subst_vars;rfl
def bC (x:eN):List V:=[I x.Number,I x.Time,I x.hG,.ro (x.Frames.map aO)]
def ji (x:eN):Prop:=aE x.Number/\aE x.Time/\aE x.hG/\x.Frames.length * 88<=140737488351232/\(∀ y,y ∈ x.Frames->dx y)
structure ey where
 Next:Int
 aR:List eN
 c9:Int
 cD:List aK
 bI:List Int
instance:Inhabited ey:=⟨⟨0,[],0,[],[]⟩⟩
theorem Ym {a b:ey} (ai:a.Next=b.Next) (J:a.aR=b.aR) (aa:a.c9=b.c9) (az:a.cD=b.cD) (bk:a.bI=b.bI):a=b:=by
 cases a;cases b;dsimp only at *;subst_vars;rfl
def iB (x:ey):List V:=[I x.Next,.ro (x.aR.map bC),I x.c9,.ro (x.cD.map aB),.ro (x.bI.map encI)]
def gM (x:ey):Prop:=aE x.Next/\x.aR.length * 48<=140737488351232/\(∀ y,y ∈ x.aR->ji y)/\aE x.c9/\x.cD.length * 16<=140737488351232/\(∀ y,y ∈ x.cD->fB y)/\x.bI.length * 8<=140737488351232/\(∀ y,y ∈ x.bI->aE y)
structure Dg where
 Room:Int
 HW:Int
 Rows:List ve
instance:Inhabited Dg:=⟨⟨0,0,[]⟩⟩
def acj (x:Dg):List V:=[I x.Room,I x.HW,.ro (x.Rows.map Jp)]
def Vi (x:Dg):Prop:=aE x.Room/\aE x.HW/\x.Rows.length * 32<=140737488351232/\(∀ y,y ∈ x.Rows->vd y)
structure Dh where
 qH:List ve
 Body:List UInt8
instance:Inhabited Dh:=⟨⟨[],[]⟩⟩
def ack (x:Dh):List V:=[.ro (x.qH.map Jp),.ro (x.Body.map bm)]
def Vj (x:Dh):Prop:=x.qH.length * 32<=140737488351232/\(∀ y,y ∈ x.qH->vd y)/\x.Body.length * 1<=140737488351232
structure Di where
 aD:List UInt8
 qH:List ve
 Yn:Bool
 Body:List UInt8
 fo:Bool
instance:Inhabited Di:=⟨⟨[],[],false,[],false⟩⟩
def acm (x:Di):List V:=[.ro (x.aD.map bm),.ro (x.qH.map Jp),ab x.Yn,.ro (x.Body.map bm),ab x.fo]
def Vk (x:Di):Prop:=x.aD.length * 1<=140737488351232/\x.qH.length * 32<=140737488351232/\(∀ y,y ∈ x.qH->vd y)/\x.Body.length * 1<=140737488351232
structure cS where
 Id:Int
 In:dQ
 Read:List UInt8
 Over:Bool
 Cut:Bool
 Out:ee
instance:Inhabited cS:=⟨⟨0,default,[],false,false,default⟩⟩
def eo (x:cS):List V:=[I x.Id,I x.In.bQ,.ro (x.In.aD.map b5),I x.In.c8,I x.In.bj,.ro (x.Read.map bm),ab x.Over,ab x.Cut,.ro (x.Out.Data.map bm),ab x.Out.Fin,I x.Out.Next,I x.Out.Max,.ro (x.Out.cO.map aB),.ro (x.Out.cI.map aB),ab x.Out.fo,ab x.Out.Over]
def jK (x:cS):Prop:=aE x.Id/\ga x.In/\x.Read.length * 1<=140737488351232/\hg x.Out
structure aG where
 Client:Bool
 aQ:ey
 cy:gA
 di:hz
 eh:hz
 gQ:Int
 gR:Int
 cN:Int
 aq:List cS
 fT:Bool
 Queue:List bo
 dT:Int
 gP:Int
 fj:Bool
 Code:Int
instance:Inhabited aG:=⟨⟨false,default,default,default,default,0,0,0,[],false,[],0,0,false,0⟩⟩
def cj (x:aG):List V:=[ab x.Client,I x.aQ.Next,.ro (x.aQ.aR.map bC),I x.aQ.c9,.ro (x.aQ.cD.map aB),.ro (x.aQ.bI.map encI),I x.cy.bj,I x.cy.dy,I x.cy.c0,I x.cy.Since,I x.di.Max,I x.di.bG,I x.eh.Max,I x.eh.bG,I x.gQ,I x.gR,I x.cN,.ro (x.aq.map eo),ab x.fT,.ro (x.Queue.map aO),I x.dT,I x.gP,ab x.fj,I x.Code]
def fw (x:aG):Prop:=gM x.aQ/\h2 x.cy/\oe x.di/\oe x.eh/\aE x.gQ/\aE x.gR/\aE x.cN/\x.aq.length * 192<=140737488351232/\(∀ y,y ∈ x.aq->jK y)/\x.Queue.length * 88<=140737488351232/\(∀ y,y ∈ x.Queue->dx y)/\aE x.dT/\aE x.gP/\aE x.Code
structure tB where
 Id:Int
 nP:Int
 l8:Int
 Key:Int
 Yo:Bool
 eR:aG
instance:Inhabited tB:=⟨⟨0,0,0,0,false,default⟩⟩
def Ew (x:tB):List V:=[I x.Id,I x.nP,I x.l8,tg x.Key,ab x.Yo,ab x.eR.Client,I x.eR.aQ.Next,.ro (x.eR.aQ.aR.map bC),I x.eR.aQ.c9,.ro (x.eR.aQ.cD.map aB),.ro (x.eR.aQ.bI.map encI),I x.eR.cy.bj,I x.eR.cy.dy,I x.eR.cy.c0,I x.eR.cy.Since,I x.eR.di.Max,I x.eR.di.bG,I x.eR.eh.Max,I x.eR.eh.bG,I x.eR.gQ,I x.eR.gR,I x.eR.cN,.ro (x.eR.aq.map eo),ab x.eR.fT,.ro (x.eR.Queue.map aO),I x.eR.dT,I x.eR.gP,ab x.eR.fj,I x.eR.Code]
def vf (x:tB):Prop:=aE x.Id/\aE x.nP/\aE x.l8/\og x.Key/\fw x.eR
structure vg where
 zl:Int
 sn:Int
 Next:Int
 tC:List tB
 so:rm
 sr:rm
 ss:rm
 su:rm
 Qh:Bool
 zm:Int
instance:Inhabited vg:=⟨⟨0,0,0,[],default,default,default,default,false,0⟩⟩
def Yp (x:vg):List V:=[tg x.zl,I x.sn,I x.Next,.ro (x.tC.map Ew),ab x.so.sN,I x.so.qG,I x.so.aR,ab x.sr.sN,I x.sr.qG,I x.sr.aR,ab x.ss.sN,I x.ss.qG,I x.ss.aR,ab x.su.sN,I x.su.qG,I x.su.aR,ab x.Qh,I x.zm]
def zk (x:vg):Prop:=og x.zl/\aE x.sn/\aE x.Next/\x.tC.length * 312<=140737488351232/\(∀ y,y ∈ x.tC->vf y)/\nF x.so/\nF x.sr/\nF x.ss/\nF x.su/\aE x.zm
structure vh where
 l8:Int
 Data:List UInt8
instance:Inhabited vh:=⟨⟨0,[]⟩⟩
def Qi (x:vh):List V:=[I x.l8,.ro (x.Data.map bm)]
def zn (x:vh):Prop:=aE x.l8/\x.Data.length * 1<=140737488351232
structure tD where
 l8:Int
 Id:Int
 tE:Int
 oz:List UInt8
 nO:Int
 Key:Int
 eR:aG
instance:Inhabited tD:=⟨⟨0,0,0,[],0,0,default⟩⟩
def Jr (x:tD):List V:=[I x.l8,I x.Id,tg x.tE,.ro (x.oz.map bm),I x.nO,tg x.Key,ab x.eR.Client,I x.eR.aQ.Next,.ro (x.eR.aQ.aR.map bC),I x.eR.aQ.c9,.ro (x.eR.aQ.cD.map aB),.ro (x.eR.aQ.bI.map encI),I x.eR.cy.bj,I x.eR.cy.dy,I x.eR.cy.c0,I x.eR.cy.Since,I x.eR.di.Max,I x.eR.di.bG,I x.eR.eh.Max,I x.eR.eh.bG,I x.eR.gQ,I x.eR.gR,I x.eR.cN,.ro (x.eR.aq.map eo),ab x.eR.fT,.ro (x.eR.Queue.map aO),I x.eR.dT,I x.eR.gP,ab x.eR.fj,I x.eR.Code]
def xn (x:tD):Prop:=aE x.l8/\aE x.Id/\og x.tE/\x.oz.length * 1<=140737488351232/\aE x.nO/\og x.Key/\fw x.eR
structure xo where
 Kind:Int
 l8:Int
 At:Int
 N:Int
 tE:Int
 Data:List UInt8
instance:Inhabited xo:=⟨⟨0,0,0,0,0,[]⟩⟩
def Qj (x:xo):List V:=[I x.Kind,I x.l8,I x.At,I x.N,tg x.tE,.ro (x.Data.map bm)]
def HX (x:xo):Prop:=aE x.Kind/\aE x.l8/\aE x.At/\aE x.N/\og x.tE/\x.Data.length * 1<=140737488351232
structure vi where
 Yq:Bool
 Dk:vh
instance:Inhabited vi:=⟨⟨false,default⟩⟩
def Js (x:vi):List V:=[ab x.Yq,I x.Dk.l8,.ro (x.Dk.Data.map bm)]
def zo (x:vi):Prop:=zn x.Dk
structure Dl where
 Gate:vg
 zp:List tD
 Way:List vi
 sn:Int
instance:Inhabited Dl:=⟨⟨default,[],[],0⟩⟩
def acn (x:Dl):List V:=[tg x.Gate.zl,I x.Gate.sn,I x.Gate.Next,.ro (x.Gate.tC.map Ew),ab x.Gate.so.sN,I x.Gate.so.qG,I x.Gate.so.aR,ab x.Gate.sr.sN,I x.Gate.sr.qG,I x.Gate.sr.aR,ab x.Gate.ss.sN,I x.Gate.ss.qG,I x.Gate.ss.aR,ab x.Gate.su.sN,I x.Gate.su.qG,I x.Gate.su.aR,ab x.Gate.Qh,I x.Gate.zm,.ro (x.zp.map Jr),.ro (x.Way.map Js),I x.sn]
def Vl (x:Dl):Prop:=zk x.Gate/\x.zp.length * 336<=140737488351232/\(∀ y,y ∈ x.zp->xn y)/\x.Way.length * 40<=140737488351232/\(∀ y,y ∈ x.Way->zo y)/\aE x.sn
end
section
theorem drop_cons [Inhabited α] {l:List α} (h:k<l.length):l.drop k=l.getD k default :: l.drop (k+1):=by
 rw[List.drop_eq_getElem_cons h,bZ,eB h];rfl
theorem cc [Inhabited α] {l:List α} (h:k<l.length):l.getD k default ∈ l:=by
 rw[bZ,eB h];exact List.getElem_mem h
theorem mN [Inhabited α] {l:List α} (h:k<l.length):l.take (k+1)=l.take k++[l.getD k default]:=by
 rw[List.take_succ_eq_append_getElem h,bZ,eB h];rfl
theorem x8 [Inhabited α] {l m:List α} (h:k<l.length) (aa:k<m.length) (ht:l.take k=m.take k) (he:l.getD k default=m.getD k default):l.take (k+1)=m.take (k+1):=by
 rw[mN h,mN aa,ht,he]
theorem BJ [Inhabited α] {l m:List α} (h:l.getD k default≠m.getD k default):l≠m:=fun e=>h (by rw[e])
theorem x9 {l m:List α} (h:k=l.length) (aa:k=m.length) (ht:l.take k=m.take k):l=m:=by
 rw[j9 (by omega),j9 (by omega)] at ht;exact ht
def x7 {α:Type} (l m:List α) (same:Prop) (k:Nat) (ok:Bool):Prop:=k<=l.length/\(ok=true->l.length=m.length/\l.take k=m.take k)/\(ok=false -> ¬ same)
theorem N0 [Inhabited α] {l:List α} {p:α->Prop} (h:k<l.length) (ht:∀ x ∈ l.take k,p x) (ag:p (l.getD k default)):∀ x ∈ l.take (k+1),p x:=by
 intro x U;rw[mN h,gr,iX] at U;rcases U with U|rfl
 ·exact ht x U
 ·exact ag
def eu (Q:Nat->Prop) (k:Nat):Prop:=∀ i,i<k->Q i
theorem lP :eu Q 0:=fun i h=>by omega
theorem iQ :eu Q (k+1) ↔ eu Q k/\Q k:=
 ⟨fun h=>⟨fun i hi=>h i (by omega),h k (by omega)⟩,fun h i hi=>by
  by_cases e:i=k
  ·subst e;exact h.2
  ·exact h.1 i (by omega)⟩
end
end Go.Proofs.YtendheafcbickaaGreat
