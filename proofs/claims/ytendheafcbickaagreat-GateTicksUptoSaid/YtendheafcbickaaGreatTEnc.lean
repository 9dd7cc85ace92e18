
import Derived.Test.YtendheafcbickaaGreatTAbsB
set_option linter.unusedVariables false
set_option linter.unusedSimpArgs false
namespace Go.Proofs.YtendheafcbickaaGreat
open Go.RowKit
def aF (x:Int):Prop:=-9223372036854775808<=x/\x<=9223372036854775807
def kg (x:Int):Prop:=0<=x/\x<=18446744073709551615
def encI (n:Int):List V:=[.lit (.int .i64 n)]
def encS (l:List UInt8):List V:=[.ro (l.map aC)]
structure aQ where
 bs:Int
 br:Int
instance:Inhabited aQ:=⟨⟨0,0⟩⟩
theorem Hq {a b:aQ} (af:a.bs=b.bs) (I:a.br=b.br):a=b:=by
 cases a;cases b;dsimp only at *;subst_vars;rfl
def aD (x:aQ):List V:=[.lit (.int .i64 x.bs),.lit (.int .i64 x.br)]
def fz (x:aQ):Prop:=aF x.bs/\aF x.br
structure iB where
 Max:Int
 cm:Int
instance:Inhabited iB:=⟨⟨0,0⟩⟩
def ue (x:iB):List V:=[.lit (.int .i64 x.Max),.lit (.int .i64 x.cm)]
def np (x:iB):Prop:=aF x.Max/\aF x.cm
structure fM where
 cK:Int
 eE:Int
 dW:Int
 Since:Int
instance:Inhabited fM:=⟨⟨0,0,0,0⟩⟩
def nr (x:fM):List V:=[.lit (.int .i64 x.cK),.lit (.int .i64 x.eE),.lit (.int .i64 x.dW),.lit (.int .i64 x.Since)]
def hE (x:fM):Prop:=aF x.cK/\aF x.eE/\aF x.dW/\aF x.Since
structure fR where
 bO:Bool
 bM:Int
 az:Int
instance:Inhabited fR:=⟨⟨false,0,0⟩⟩
def nt (x:fR):List V:=[.lit (.bool x.bO),.lit (.int .i64 x.bM),.lit (.int .i64 x.az)]
def gL (x:fR):Prop:=aF x.bM/\aF x.az
structure sz where
 Name:List UInt8
 Value:List UInt8
instance:Inhabited sz:=⟨⟨[],[]⟩⟩
def CM (x:sz):List V:=[.lit (.string (bZ x.Name)),.lit (.string (bZ x.Value))]
def sA (x:sz):Prop:=x.Name.length<=140737488351232/\x.Value.length<=140737488351232
structure dH where
 bI:Int
 Data:List UInt8
instance:Inhabited dH:=⟨⟨0,[]⟩⟩
theorem Oo {a b:dH} (af:a.bI=b.bI) (I:a.Data=b.Data):a=b:=by
 cases a;cases b;dsimp only at *;subst_vars;rfl
def kx (x:dH):List V:=[.lit (.int .i64 x.bI),.ro (x.Data.map aC)]
def jA (x:dH):Prop:=aF x.bI/\x.Data.length * 1<=140737488351232
structure fE where
 fN:Int
 cI:List dH
 ig:Int
 cK:Int
instance:Inhabited fE:=⟨⟨0,[],0,0⟩⟩
def l9 (x:fE):List V:=[.lit (.int .i64 x.fN),.ro (x.cI.map kx),.lit (.int .i64 x.ig),.lit (.int .i64 x.cK)]
def iU (x:fE):Prop:=aF x.fN/\x.cI.length * 32<=140737488351232/\(∀ y,y ∈ x.cI->jA y)/\aF x.ig/\aF x.cK
structure dE where
 Data:List UInt8
 Fin:Bool
 Next:Int
 Max:Int
 cp:List aQ
 dF:List aQ
 lH:Bool
 Over:Bool
instance:Inhabited dE:=⟨⟨[],false,0,0,[],[],false,false⟩⟩
def fe (x:dE):List V:=[.ro (x.Data.map aC),.lit (.bool x.Fin),.lit (.int .i64 x.Next),.lit (.int .i64 x.Max),.ro (x.cp.map aD),.ro (x.dF.map aD),.lit (.bool x.lH),.lit (.bool x.Over)]
def hJ (x:dE):Prop:=x.Data.length * 1<=140737488351232/\aF x.Next/\aF x.Max/\x.cp.length * 16<=140737488351232/\(∀ y,y ∈ x.cp->fz y)/\x.dF.length * 16<=140737488351232/\(∀ y,y ∈ x.dF->fz y)
structure bc where
 Kind:Int
 Id:Int
 bI:Int
 Fin:Bool
 Code:Int
 bi:List aQ
 Data:List UInt8
instance:Inhabited bc:=⟨⟨0,0,0,false,0,[],[]⟩⟩
theorem Oq {a b:bc} (af:a.Kind=b.Kind) (I:a.Id=b.Id) (J:a.bI=b.bI) (av:a.Fin=b.Fin) (bl:a.Code=b.Code) (dm:a.bi=b.bi) (fr:a.Data=b.Data):a=b:=by
 cases a;cases b;dsimp only at *;subst_vars;rfl
def aW (x:bc):List V:=[.lit (.int .i64 x.Kind),.lit (.int .i64 x.Id),.lit (.int .i64 x.bI),.lit (.bool x.Fin),.lit (.int .i64 x.Code),.ro (x.bi.map aD),.ro (x.Data.map aC)]
def dC (x:bc):Prop:=aF x.Kind/\aF x.Id/\aF x.bI/\aF x.Code/\x.bi.length * 16<=140737488351232/\(∀ y,y ∈ x.bi->fz y)/\x.Data.length * 1<=140737488351232
structure gy where
 Kind:Int
 gW:Int
 hk:Int
 ky:List UInt8
 Number:Int
 fm:Int
instance:Inhabited gy:=⟨⟨0,0,0,[],0,0⟩⟩
def k7 (x:gy):List V:=[.lit (.int .i64 x.Kind),.lit (.int .i64 x.gW),.lit (.int .i64 x.hk),.ro (x.ky.map aC),.lit (.int .i64 x.Number),.lit (.int .i64 x.fm)]
def mK (x:gy):Prop:=aF x.Kind/\aF x.gW/\aF x.hk/\x.ky.length * 1<=140737488351232/\aF x.Number/\aF x.fm
structure eN where
 Number:Int
 Time:Int
 fm:Int
 Frames:List bc
instance:Inhabited eN:=⟨⟨0,0,0,[]⟩⟩
theorem Ot {a b:eN} (af:a.Number=b.Number) (I:a.Time=b.Time) (J:a.fm=b.fm) (av:a.Frames=b.Frames):a=b:=by
 cases a;cases b;dsimp only at *;subst_vars;rfl
def bY (x:eN):List V:=[.lit (.int .i64 x.Number),.lit (.int .i64 x.Time),.lit (.int .i64 x.fm),.ro (x.Frames.map aW)]
def jg (x:eN):Prop:=aF x.Number/\aF x.Time/\aF x.fm/\x.Frames.length * 88<=140737488351232/\(∀ y,y ∈ x.Frames->dC y)
structure c8 where
 Next:Int
 az:List eN
 dn:Int
 cg:List aQ
 b7:List Int
instance:Inhabited c8:=⟨⟨0,[],0,[],[]⟩⟩
theorem Ou {a b:c8} (af:a.Next=b.Next) (I:a.az=b.az) (J:a.dn=b.dn) (av:a.cg=b.cg) (bl:a.b7=b.b7):a=b:=by
 cases a;cases b;dsimp only at *;subst_vars;rfl
def gC (x:c8):List V:=[.lit (.int .i64 x.Next),.ro (x.az.map bY),.lit (.int .i64 x.dn),.ro (x.cg.map aD),.ro (x.b7.map encI)]
def eF (x:c8):Prop:=aF x.Next/\x.az.length * 48<=140737488351232/\(∀ y,y ∈ x.az->jg y)/\aF x.dn/\x.cg.length * 16<=140737488351232/\(∀ y,y ∈ x.cg->fz y)/\x.b7.length * 8<=140737488351232/\(∀ y,y ∈ x.b7->aF y)
structure za where
 Room:Int
 CN:Int
 Rows:List sz
instance:Inhabited za:=⟨⟨0,0,[]⟩⟩
def WU (x:za):List V:=[.lit (.int .i64 x.Room),.lit (.int .i64 x.CN),.ro (x.Rows.map CM)]
def Ov (x:za):Prop:=aF x.Room/\aF x.CN/\x.Rows.length * 32<=140737488351232/\(∀ y,y ∈ x.Rows->sA y)
structure zb where
 oz:List sz
 Body:List UInt8
instance:Inhabited zb:=⟨⟨[],[]⟩⟩
def WV (x:zb):List V:=[.ro (x.oz.map CM),.ro (x.Body.map aC)]
def Ow (x:zb):Prop:=x.oz.length * 32<=140737488351232/\(∀ y,y ∈ x.oz->sA y)/\x.Body.length * 1<=140737488351232
structure zc where
 cI:List UInt8
 oz:List sz
 Ox:Bool
 Body:List UInt8
 lH:Bool
instance:Inhabited zc:=⟨⟨[],[],false,[],false⟩⟩
def WW (x:zc):List V:=[.ro (x.cI.map aC),.ro (x.oz.map CM),.lit (.bool x.Ox),.ro (x.Body.map aC),.lit (.bool x.lH)]
def Oy (x:zc):Prop:=x.cI.length * 1<=140737488351232/\x.oz.length * 32<=140737488351232/\(∀ y,y ∈ x.oz->sA y)/\x.Body.length * 1<=140737488351232
structure dV where
 Id:Int
 In:fE
 Read:List UInt8
 Over:Bool
 Cut:Bool
 Out:dE
instance:Inhabited dV:=⟨⟨0,default,[],false,false,default⟩⟩
def cv (x:dV):List V:=[.lit (.int .i64 x.Id),.lit (.int .i64 x.In.fN),.ro (x.In.cI.map kx),.lit (.int .i64 x.In.ig),.lit (.int .i64 x.In.cK),.ro (x.Read.map aC),.lit (.bool x.Over),.lit (.bool x.Cut),.ro (x.Out.Data.map aC),.lit (.bool x.Out.Fin),.lit (.int .i64 x.Out.Next),.lit (.int .i64 x.Out.Max),.ro (x.Out.cp.map aD),.ro (x.Out.dF.map aD),.lit (.bool x.Out.lH),.lit (.bool x.Out.Over)]
def gM (x:dV):Prop:=aF x.Id/\iU x.In/\x.Read.length * 1<=140737488351232/\hJ x.Out
structure a6 where
 Client:Bool
 bf:c8
 e8:fM
 fL:iB
 fQ:iB
 ks:Int
 kK:Int
 gJ:Int
 aO:List dV
 ke:Bool
 Queue:List bc
 jO:Int
 kL:Int
 iz:Bool
 Code:Int
instance:Inhabited a6:=⟨⟨false,default,default,default,default,0,0,0,[],false,[],0,0,false,0⟩⟩
def e2 (x:a6):List V:=[.lit (.bool x.Client),.lit (.int .i64 x.bf.Next),.ro (x.bf.az.map bY),.lit (.int .i64 x.bf.dn),.ro (x.bf.cg.map aD),.ro (x.bf.b7.map encI),.lit (.int .i64 x.e8.cK),.lit (.int .i64 x.e8.eE),.lit (.int .i64 x.e8.dW),.lit (.int .i64 x.e8.Since),.lit (.int .i64 x.fL.Max),.lit (.int .i64 x.fL.cm),.lit (.int .i64 x.fQ.Max),.lit (.int .i64 x.fQ.cm),.lit (.int .i64 x.ks),.lit (.int .i64 x.kK),.lit (.int .i64 x.gJ),.ro (x.aO.map cv),.lit (.bool x.ke),.ro (x.Queue.map aW),.lit (.int .i64 x.jO),.lit (.int .i64 x.kL),.lit (.bool x.iz),.lit (.int .i64 x.Code)]
def ej (x:a6):Prop:=eF x.bf/\hE x.e8/\np x.fL/\np x.fQ/\aF x.ks/\aF x.kK/\aF x.gJ/\x.aO.length * 192<=140737488351232/\(∀ y,y ∈ x.aO->gM y)/\x.Queue.length * 88<=140737488351232/\(∀ y,y ∈ x.Queue->dC y)/\aF x.jO/\aF x.kL/\aF x.Code
structure cb where
 Id:Int
 hk:Int
 gD:Int
 Key:Int
 zd:Bool
 bX:a6
instance:Inhabited cb:=⟨⟨0,0,0,0,false,default⟩⟩
def cQ (x:cb):List V:=[.lit (.int .i64 x.Id),.lit (.int .i64 x.hk),.lit (.int .i64 x.gD),.lit (.int .u64 x.Key),.lit (.bool x.zd),.lit (.bool x.bX.Client),.lit (.int .i64 x.bX.bf.Next),.ro (x.bX.bf.az.map bY),.lit (.int .i64 x.bX.bf.dn),.ro (x.bX.bf.cg.map aD),.ro (x.bX.bf.b7.map encI),.lit (.int .i64 x.bX.e8.cK),.lit (.int .i64 x.bX.e8.eE),.lit (.int .i64 x.bX.e8.dW),.lit (.int .i64 x.bX.e8.Since),.lit (.int .i64 x.bX.fL.Max),.lit (.int .i64 x.bX.fL.cm),.lit (.int .i64 x.bX.fQ.Max),.lit (.int .i64 x.bX.fQ.cm),.lit (.int .i64 x.bX.ks),.lit (.int .i64 x.bX.kK),.lit (.int .i64 x.bX.gJ),.ro (x.bX.aO.map cv),.lit (.bool x.bX.ke),.ro (x.bX.Queue.map aW),.lit (.int .i64 x.bX.jO),.lit (.int .i64 x.bX.kL),.lit (.bool x.bX.iz),.lit (.int .i64 x.bX.Code)]
def hY (x:cb):Prop:=aF x.Id/\aF x.hk/\aF x.gD/\kg x.Key/\ej x.bX
structure cl where
 iQ:Int
 b4:Int
 Next:Int
 bb:List cb
 c1:fR
 c2:fR
 c3:fR
 c4:fR
 jN:Bool
 hR:Int
instance:Inhabited cl:=⟨⟨0,0,0,[],default,default,default,default,false,0⟩⟩
def fU (x:cl):List V:=[.lit (.int .u64 x.iQ),.lit (.int .i64 x.b4),.lit (.int .i64 x.Next),.ro (x.bb.map cQ),.lit (.bool x.c1.bO),.lit (.int .i64 x.c1.bM),.lit (.int .i64 x.c1.az),.lit (.bool x.c2.bO),.lit (.int .i64 x.c2.bM),.lit (.int .i64 x.c2.az),.lit (.bool x.c3.bO),.lit (.int .i64 x.c3.bM),.lit (.int .i64 x.c3.az),.lit (.bool x.c4.bO),.lit (.int .i64 x.c4.bM),.lit (.int .i64 x.c4.az),.lit (.bool x.jN),.lit (.int .i64 x.hR)]
def iT (x:cl):Prop:=kg x.iQ/\aF x.b4/\aF x.Next/\x.bb.length * 312<=140737488351232/\(∀ y,y ∈ x.bb->hY y)/\gL x.c1/\gL x.c2/\gL x.c3/\gL x.c4/\aF x.hR
structure dG where
 gD:Int
 Data:List UInt8
instance:Inhabited dG:=⟨⟨0,[]⟩⟩
def dc (x:dG):List V:=[.lit (.int .i64 x.gD),.ro (x.Data.map aC)]
def vK (x:dG):Prop:=aF x.gD/\x.Data.length * 1<=140737488351232
structure h2 where
 gD:Int
 Id:Int
 o2:Int
 ky:List UInt8
 gW:Int
 Key:Int
 bX:a6
instance:Inhabited h2:=⟨⟨0,0,0,[],0,0,default⟩⟩
def vL (x:h2):List V:=[.lit (.int .i64 x.gD),.lit (.int .i64 x.Id),.lit (.int .u64 x.o2),.ro (x.ky.map aC),.lit (.int .i64 x.gW),.lit (.int .u64 x.Key),.lit (.bool x.bX.Client),.lit (.int .i64 x.bX.bf.Next),.ro (x.bX.bf.az.map bY),.lit (.int .i64 x.bX.bf.dn),.ro (x.bX.bf.cg.map aD),.ro (x.bX.bf.b7.map encI),.lit (.int .i64 x.bX.e8.cK),.lit (.int .i64 x.bX.e8.eE),.lit (.int .i64 x.bX.e8.dW),.lit (.int .i64 x.bX.e8.Since),.lit (.int .i64 x.bX.fL.Max),.lit (.int .i64 x.bX.fL.cm),.lit (.int .i64 x.bX.fQ.Max),.lit (.int .i64 x.bX.fQ.cm),.lit (.int .i64 x.bX.ks),.lit (.int .i64 x.bX.kK),.lit (.int .i64 x.bX.gJ),.ro (x.bX.aO.map cv),.lit (.bool x.bX.ke),.ro (x.bX.Queue.map aW),.lit (.int .i64 x.bX.jO),.lit (.int .i64 x.bX.kL),.lit (.bool x.bX.iz),.lit (.int .i64 x.bX.Code)]
def sB (x:h2):Prop:=aF x.gD/\aF x.Id/\kg x.o2/\x.ky.length * 1<=140737488351232/\aF x.gW/\kg x.Key/\ej x.bX
structure uf where
 Kind:Int
 gD:Int
 At:Int
 N:Int
 o2:Int
 Data:List UInt8
instance:Inhabited uf:=⟨⟨0,0,0,0,0,[]⟩⟩
def Hr (x:uf):List V:=[.lit (.int .i64 x.Kind),.lit (.int .i64 x.gD),.lit (.int .i64 x.At),.lit (.int .i64 x.N),.lit (.int .u64 x.o2),.ro (x.Data.map aC)]
def CO (x:uf):Prop:=aF x.Kind/\aF x.gD/\aF x.At/\aF x.N/\kg x.o2/\x.Data.length * 1<=140737488351232
structure sC where
 Oz:Bool
 ze:dG
instance:Inhabited sC:=⟨⟨false,default⟩⟩
def CP (x:sC):List V:=[.lit (.bool x.Oz),.lit (.int .i64 x.ze.gD),.ro (x.ze.Data.map aC)]
def vM (x:sC):Prop:=vK x.ze
structure zf where
 Gate:cl
 vN:List h2
 Way:List sC
 b4:Int
instance:Inhabited zf:=⟨⟨default,[],[],0⟩⟩
def WX (x:zf):List V:=[.lit (.int .u64 x.Gate.iQ),.lit (.int .i64 x.Gate.b4),.lit (.int .i64 x.Gate.Next),.ro (x.Gate.bb.map cQ),.lit (.bool x.Gate.c1.bO),.lit (.int .i64 x.Gate.c1.bM),.lit (.int .i64 x.Gate.c1.az),.lit (.bool x.Gate.c2.bO),.lit (.int .i64 x.Gate.c2.bM),.lit (.int .i64 x.Gate.c2.az),.lit (.bool x.Gate.c3.bO),.lit (.int .i64 x.Gate.c3.bM),.lit (.int .i64 x.Gate.c3.az),.lit (.bool x.Gate.c4.bO),.lit (.int .i64 x.Gate.c4.bM),.lit (.int .i64 x.Gate.c4.az),.lit (.bool x.Gate.jN),.lit (.int .i64 x.Gate.hR),.ro (x.vN.map vL),.ro (x.Way.map CP),.lit (.int .i64 x.b4)]
def OA (x:zf):Prop:=iT x.Gate/\x.vN.length * 336<=140737488351232/\(∀ y,y ∈ x.vN->sB y)/\x.Way.length * 40<=140737488351232/\(∀ y,y ∈ x.Way->vM y)/\aF x.b4
end Go.Proofs.YtendheafcbickaaGreat
