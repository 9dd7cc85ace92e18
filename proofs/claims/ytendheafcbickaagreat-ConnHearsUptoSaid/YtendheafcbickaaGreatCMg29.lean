/-
  SEVERAL TEXTS IN ONE: each with its own comment.
-/
import Derived.Test.YtendheafcbickaaGreatCMg06
set_option linter.unusedVariables false
set_option linter.unusedSimpArgs false
namespace Go.Proofs.YtendheafcbickaaGreat
section
set_option maxRecDepth 100000
attribute [local irreducible] cE a6 bu GStep Fn cg bf cA
def Lh (h:lQ):Int:=
 if h.Kind<0\/2<h.Kind then 2 else if 120<h.oz.length then 1 else if ¬ (0<=h.nO/\h.nO<=255) \/ ¬ (0<=h.nP/\h.nP<=255) then 6
 else if h.Kind=1 then(if ¬ h.hG=0 \/ ¬ h.Number=0 then 3 else 0)
 else if h.hG<1\/4<h.hG\/h.Number<0\/((256 ^ h.hG.toNat:Nat):Int)<=h.Number then 6
 else if h.Kind=2/\(¬ h.nP=0\/0<h.oz.length) then 3 else 0
def Fs (n:Int):Prop:=0<=n/\n<=4611686018427387903
instance (n:Int):Decidable (Fs n):=inferInstanceAs (Decidable (_/\_))
def BK (n:Int):Nat:=if n<64 then 1 else if n<16384 then 2 else if n<1073741824 then 4 else 8
def abu (n:Int):Int:=if Fs n then BK n else 0
def abv (n:Int):Int:=if Fs n then 0 else 6
def Sk (k:Nat):Nat:=if k=1 then 0 else if k=2 then 1 else if k=4 then 2 else 3
def mz (n:Nat):List UInt8:=sU (n+Sk (BK n) * (64 * 256 ^ (BK n - 1))) (BK n)
def abw (n k j:Nat):List (List V):=List.replicate (k - j) [.lit (.int .u8 0)]++(sU n j).map bm
def Sl (h:lQ):List UInt8:=
 if h.Kind=2 then[UInt8.ofNat (63+h.hG.toNat),UInt8.ofNat h.nO.toNat]
 else(if h.Kind=0 then[UInt8.ofNat (191+h.hG.toNat),UInt8.ofNat h.nO.toNat,UInt8.ofNat h.nP.toNat] else[UInt8.ofNat 240,UInt8.ofNat h.nO.toNat,UInt8.ofNat h.nP.toNat])++(mz h.oz.length++h.oz)
def Ft (h:lQ):List UInt8:=Sl h++sU h.Number.toNat h.hG.toNat
def abx (L:List Int):List UInt8:=L.flatMap (fun n=>mz n.toNat)
def Sm (f:bo):List UInt8:=if f.Kind=8 then(if f.Fin=true then[15] else[14]) else mz f.Kind.toNat
def Sn (l:List aK) (k:Nat):List UInt8:=
 if k=0 then mz (l.getD 0 default).bz.toNat++mz ((l.length:Int) - 1).toNat++mz ((l.getD 0 default).bz - (l.getD 0 default).bE).toNat
 else mz ((l.getD (k - 1) default).bE - (l.getD k default).bz - 2).toNat++mz ((l.getD k default).bz - (l.getD k default).bE).toNat
def Li (l:List aK):Nat->List UInt8
 | 0=>[]
 | k+1=>Li l k++Sn l k
def BL (b:Bool) (l:List UInt8):List UInt8:=if b=true then l else[]
def Sp (w c:Bool) (n:Int):List UInt8:=if w=true then sU n.toNat 8 else BL c (mz n.toNat)
def Sq (f:bo):List UInt8:=Sm f++Li f.ec f.ec.length++BL (fH (hasB f.Kind) 105) (mz f.Id.toNat)++BL (fH (hasB f.Kind) 111) (mz f.aP.toNat)++Sp (fH (hasB f.Kind) 119) (fH (hasB f.Kind) 99) f.Code++BL (fH (hasB f.Kind) 100) (mz f.Data.length++f.Data)
end
end Go.Proofs.YtendheafcbickaaGreat
