
import Derived.Test.YtendheafcbickaaGreatCHrK
set_option linter.unusedVariables false
set_option linter.unusedSimpArgs false
namespace Go.Proofs.YtendheafcbickaaGreat
variable {B:Nat} {b:Bool} {c:aG} {e:Int}
set_option maxRecDepth 100000
theorem Gi (h:c3 c):c3 (iW c b):=⟨h.op,h.jf,h.id,h.dv,h.mg,h.sp,h.lC,h.a8,h.h7,h.n2⟩
theorem Gj (h:cK B c):cK B (iW c b):=⟨h.eg,h.lD,h.gK,h.iK,h.nn⟩
theorem N7 {now:Int}:∀ (l:List bo) {B:Nat} {c:aG},c3 c->cK B c->B+120 * l.length<=16777216->(∀ f ∈ l,dx f/\gx f=0)->oj (B+120 * l.length) (kN now c l)
 | [],B,c,ad,h,_,_=>⟨ad,by unfold kN aE;dsimp only;omega,fun _=>h⟩
 | f :: l,B,c,ad,h,an,hf=>by
  obtain ⟨hw,ai⟩:=hf f fV;have aw:=Gg ai;have ae:=sX ai;rw[eb] at an;obtain ⟨fF,a2,a3⟩:=yB (now:=now) (Gi (b:=c.fT || oN f.Kind) ad) (Gj h) (by omega) hw aw.1 ae.2;unfold kN;split
  ·rename_i hc;have bU:=N7 (now:=now) l fF (a3 hc.1) (by omega) (fun g av=>hf g (ha _ av));rw[eb,show B+120 * (l.length+1)=B+120+120 * l.length by omega];exact bU
  ·exact⟨fF,a2,fun e=>(a3 e).mono (by rw[eb];omega)⟩
theorem C6 (h:c3 c) (he:aE e):c3 (kS c e):=⟨h.op,h.jf,h.id,h.dv,h.mg,h.sp,h.lC,h.a8,h.h7,he⟩
theorem C7 (he:aE e):cK 0 (kS c e):=by
 refine ⟨by unfold kS;simp,(fun i hi=>by unfold kS at hi;simp at hi),(fun y aj=>by cases aj),by unfold kS;simp,fun y aj=>?_⟩;have aj:y ∈ [sw e]:=aj;rw[iX] at aj;subst aj;unfold sw bT.dx;exact⟨by unfold aE;dsimp only;omega,by unfold aE;dsimp only;omega,by unfold aE;dsimp only;omega,he,by simp,(fun y aj=>by cases aj),by simp⟩
theorem VB {now:Int} {l:List bo} (ad:c3 c) (h:cK B c) (an:B+120 * l.length<=16777216) (hf:∀ f ∈ l,dx f/\gx f=0):W.fw (uT c now l):=by
 obtain ⟨fF,a2,a3⟩:=N7 (now:=now) l ad h an hf;unfold uT;split
 ·rename_i ai;have a3:=a3 ai;split
  ·exact si fF a3 an
  ·obtain ⟨bF,bS,Cx⟩:=HN fF a3;split
   ·rename_i aa;exact si bF (Cx aa) an
   ·exact si (C6 bF bS) (C7 bS) (by omega)
 ·exact si (C6 fF a2) (C7 a2) (by omega)
theorem VC {l:List cS} {y:cS} (h:y ∈ l):∃ i,i<l.length/\l.getD i default=y:=by
 obtain ⟨i,hi,e⟩:=List.getElem_of_mem h;exact⟨i,hi,by rw[bZ,eB hi];exact e⟩
theorem H3 (hc:nj c=0) (hu:bT.fw c):c3 c/\cK 4194304 c:=by
 obtain ⟨_,ag⟩ | ⟨nC,_⟩:=Gk c
 ·obtain ⟨⟨⟨⟨bB,de⟩,fJ⟩,jI⟩,mC⟩:=ag;obtain ⟨fF,a2,a3,a4⟩:=bB;unfold nh at de;obtain ⟨VD,N8,N9,Vs,abT,NV,abU,u8,VE,abV,VF,abW,abX,VG⟩:=hu;have f1:gT c.di:=Classical.byContradiction fun q=>by unfold tG at a3;rw[ah q] at a3;exact absurd a3 (by decide)
  have f2:gT c.eh:=Classical.byContradiction fun q=>by unfold tG at a4;rw[ah q] at a4;exact absurd a4 (by decide)
  refine ⟨⟨by omega,by omega,by omega,f1,f2,VD,N8,by omega,by omega,VG⟩,⟨by omega,fun i hi=>⟨(fJ i hi).1,(fJ i hi).2.1⟩,fun y aj=>?_,by omega,VF⟩⟩;obtain ⟨i,hi,e⟩:=VC aj;obtain ⟨fv,gz,mG,eg,s3⟩:=fJ i hi;rw[e] at fv gz mG eg s3;obtain ⟨c4,du,w3,e9⟩:=VE y aj;obtain ⟨hh,_⟩:=pr mG;unfold gj at hh;have aw:mM y.Out:=by
   rcases r6 y.Out with⟨_,q⟩ | ⟨q,_⟩
   ·exact q
   ·rw[q] at eg;exact absurd eg (by decide)
  have aw:=aw.1.1.1;unfold oh at aw;have aU:=Fw (B:=1048576) (fun p ar=>by have:=(du.2.2.1 p ar).2;omega:∀ p ∈ y.In.aD,p.Data.length<=1048576);have abY:1048576 * y.In.aD.length<=1048576 * 4:=Nat.mul_le_mul_left _ hh.2.2.2.2;exact⟨c4,bT.Df _ du,mG,by omega,e9,by omega,s3⟩
 ·rw[nC] at hc;exact absurd hc (by decide)
end Go.Proofs.YtendheafcbickaaGreat
