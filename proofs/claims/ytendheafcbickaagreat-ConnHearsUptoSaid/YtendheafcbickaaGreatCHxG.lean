
import Derived.Test.YtendheafcbickaaGreatCMg48
set_option linter.unusedVariables false
set_option linter.unusedSimpArgs false
set_option maxHeartbeats 16000000
namespace Go.Proofs.YtendheafcbickaaGreat
set_option maxRecDepth 100000
attribute [local irreducible] cE a6 bu GStep Fn cg bf cA
noncomputable def kC:Nat->Nat->aG->aG×Int
 | 0,_,c=>(c,0)
 | m+1,k,c=>if (kR c k).2=0 then kC m (k+1) (kR c k).1 else(c,(kR c k).2)
noncomputable def uV (c:aG):aG×Int:=
  if (kC c.aq.length 0 c).2=0 then
    (if (kC c.aq.length 0 c).1.di.Max - (kC c.aq.length 0 c).1.di.bG<350 then
      (fE (dM (kC c.aq.length 0 c).1 (qu (kC c.aq.length 0 c).1.di)) (fK (kC c.aq.length 0 c).1.Queue (sa (qu (kC c.aq.length 0 c).1.di).Max)).1,(fK (kC c.aq.length 0 c).1.Queue (sa (qu (kC c.aq.length 0 c).1.di).Max)).2)
     else((kC c.aq.length 0 c).1,0))
  else kC c.aq.length 0 c
theorem Yz (c:aG) (n:Nat) (e:Int):kS (kR c n).1 e=kS c e:=by
 unfold kR;split <;> rfl
theorem Qk (e:Int):∀ (m k:Nat) (c:aG),(kC m k c).2=(hV m k c).2/\((hV m k c).2=0->(kC m k c).1=(hV m k c).1)/\kS (kC m k c).1 e=kS (hV m k c).1 e
 | 0,k,c=>⟨rfl,fun _=>rfl,rfl⟩
 | m+1,k,c=>by
  unfold kC hV;split
  ·exact Qk e m (k+1) _
  ·exact⟨rfl,fun h=>absurd h cu,(Yz c k e).symm⟩
theorem Tq (e:Int) (c:aG):(uV c).2=(lb c).2/\((lb c).2=0->(uV c).1=(lb c).1)/\kS (uV c).1 e=kS (lb c).1 e:=by
 obtain ⟨fF,a2,a3⟩:=Qk e c.aq.length 0 c;unfold uV lb;by_cases h:(hV c.aq.length 0 c).2=0
 ·rw[fF,a2 h,al h,al h];exact⟨rfl,fun _=>rfl,rfl⟩
 ·rw[ah (by rw[fF];exact h),ah h];exact⟨fF,fun aa=>absurd aa h,a3⟩
theorem FW {g:dQ} (h:ev g=0):0<=eO g/\eO g<=4611686018427387903:=by
 obtain ⟨hh,b,hb,J,aa⟩:=pr h;have az:=wB hb;have bk:=(sV hb).1;unfold gj at hh;omega
theorem YA {g:dQ} (h:ev g=0):ri g=⟨g.bQ,g.aD,g.c8,max g.bj (min (g.bQ+300) 4611686018427387903)⟩:=by
 unfold ri oO;rw[ah (by omega),ah (by omega)]
theorem YB {f:hz} (h:gT f):qu f=⟨max f.Max (min (f.bG+700) 4611686018427387903),f.bG⟩:=by
 unfold qu k7;rw[al h];unfold gT at h;rw[ah (by omega)]
theorem Tr {B:Nat} (c:aG) (ad:c3 c) (ao:cK B c) (C:aG) (e:Int) (ap:uV c=(C,e)) :
  Fn Tryz.prog 71 [.agg (cj c)] (.bN [.agg (cj C),I e]):=by
 have ly:=ao.eg;have hq:=ao.iK;have Ii:∀ i,i<c.aq.length->lz B (c.aq.getD i default):=fun i hi=>ao.gK _ (cc hi)
 have lB:=ad.dv;clear ad ao;unfold uV at ap;obtain ⟨aA,space,bg,bc,bp,ids,bJ,opened,aC,bF,queue,last,bK,bS,code⟩:=c;dsimp only at *;generalize dC:kC aC.length 0 ⟨aA,space,bg,bc,bp,ids,bJ,opened,aC,bF,queue,last,bK,bS,code⟩=A at *;obtain ⟨dH,aI⟩:=A;dsimp only at *;refine aH Tryz.func71 ?_;(try refine ay ?_;and_intros <;> intros);refine cv (fun x:Nat×List cS×List bo=>⟨[(1,.ptr 0 0 0 0),(2,.ptr 1 0 0 0),(9,.ro (aC.map eo)),(10,I aC.length),(11,I x.1)],[(0,some (.box 51 [ab aA,I space.Next,.ro (space.aR.map bC),I space.c9,.ro (space.cD.map aB),.ro (space.bI.map encI),I bg.bj,I bg.dy,I bg.c0,I bg.Since,I bc.Max,I bc.bG,I bp.Max,I bp.bG,I ids,I bJ,I opened,.ro (x.2.1.map eo),ab bF,.ro (x.2.2.map aO),I last,I bK,ab bS,I code])),(1,some (.box 51 [ab false,I 0,aX,I 0,aX,aX,I 0,I 0,I 0,I 0,I 0,I 0,I 0,I 0,I 0,I 0,I 0,aX,ab false,aX,I 0,I 0,ab false,I 0]))],2,Tryz.f71.ntmps⟩)
  (fun x=>x.1<=aC.length/\kC (aC.length - x.1) x.1 ⟨aA,space,bg,bc,bp,ids,bJ,opened,x.2.1,bF,x.2.2,last,bK,bS,code⟩=(dH,aI)/\x.2.1.length=aC.length/\x.2.2.length<=12 /\ ∀ i,x.1<=i->x.2.1.getD i default=aC.getD i default) (fun x=>aC.length - x.1) (0,aC,queue) ⟨cm _,dC,rfl,hq,fun i _=>rfl⟩ fP ?_
 clear dC hq;rintro ⟨k,a8,q⟩ ⟨ag,hm,hK,hq,dc⟩;dsimp only at *;by_cases au:k<aC.length
 ·obtain ⟨m,Ij⟩:∃ m,aC.length - k=m+1:=⟨aC.length - k - 1,by omega⟩;rw[Ij] at hm;have Dy:aC.length - (k+1)=m:=by omega
  have U:k<a8.length:=by omega
  have dN:=Ii k au;have pC:=dc k (e4 _);have Dv:∀ y,∀ i,k+1<=i->(a8.set k y).getD i default=aC.getD i default:=fun y i hi=>by
   rw[<- dc i (by omega),bZ,List.getElem?_set_ne (by omega),<- bZ]
  obtain ⟨B8,oJ,p9,_⟩:=dN;have p8:=(pr p9).1;unfold gj at p8;by_cases h8:(aC.getD k default).Over=false
  ·by_cases hw:(aC.getD k default).In.bj - (aC.getD k default).In.bQ<150
   ·unfold kC at hm;rw[Oy _ _ (by unfold cV;dsimp only;rw[pC];exact⟨h8,hw⟩)] at hm;unfold cV at hm;dsimp only at hm;rw[pC,YA p9,h8] at hm;have gu:=uB ⟨aA,space,bg,bc,bp,ids,bJ,opened,a8,bF,q,last,bK,bS,code⟩ k ⟨(aC.getD k default).Id,⟨(aC.getD k default).In.bQ,(aC.getD k default).In.aD,(aC.getD k default).In.c8,(max (aC.getD k default).In.bj (min ((aC.getD k default).In.bQ+300) 4611686018427387903))⟩,(aC.getD k default).Read,false,(aC.getD k default).Cut,(aC.getD k default).Out⟩ b4 U;have hp:=yr (dw ⟨aA,space,bg,bc,bp,ids,bJ,opened,a8,bF,q,last,bK,bS,code⟩ k ⟨(aC.getD k default).Id,⟨(aC.getD k default).In.bQ,(aC.getD k default).In.aD,(aC.getD k default).In.c8,(max (aC.getD k default).In.bj (min ((aC.getD k default).In.bQ+300) 4611686018427387903))⟩,(aC.getD k default).Read,false,(aC.getD k default).Cut,(aC.getD k default).Out⟩) (rh (aC.getD k default).Id (max (aC.getD k default).In.bj (min ((aC.getD k default).In.bQ+300) 4611686018427387903))) hq;have OA:=Dz q (rh (aC.getD k default).Id (max (aC.getD k default).In.bj (min ((aC.getD k default).In.bQ+300) 4611686018427387903))) hq;unfold fE dw cj at hp;unfold dw cj at gu;unfold rh at *;unfold fE dw at hm;dsimp only at gu hp hm;have Ql:IntKind.i64.wrap ((aC.getD k default).In.bQ+300)=(aC.getD k default).In.bQ+300:=by rw[IntKind.wrap_i64];omega
    generalize fK q ⟨17,(aC.getD k default).Id,(max (aC.getD k default).In.bj (min ((aC.getD k default).In.bQ+300) 4611686018427387903)),false,0,[],[]⟩=T at *;obtain ⟨rP,p6⟩:=T;dsimp only at *;by_cases tL:p6=0
    ·subst tL;rw[al rfl] at hm;(repeat' first|(refine fI 4 ?_;(and_intros <;> intros))|fail)
     all_goals rw[h8]
     (repeat' first|(refine fI 6 ?_;(and_intros <;> intros))|fail)
     all_goals try (exfalso;omega)
     all_goals try (exfalso;simp only[IntKind.wrap_i64] at *;omega)
     all_goals (try rw[Ql])
     (refine jJ gu hp ?_;and_intros <;> intros)
     all_goals first
      | (exact⟨(k+1,a8.set k ⟨(aC.getD k default).Id,⟨(aC.getD k default).In.bQ,(aC.getD k default).In.aD,(aC.getD k default).In.c8,(max (aC.getD k default).In.bj (min ((aC.getD k default).In.bQ+300) 4611686018427387903))⟩,(aC.getD k default).Read,false,(aC.getD k default).Cut,(aC.getD k default).Out⟩,rP),b4,OB,ba⟩)
      | (exfalso;omega)
      | (exfalso;simp only[IntKind.wrap_i64] at *;omega)
      | skip
    ·rw[ah tL] at hm
     cases hm
     rw[ah tL] at ap
     cases ap
     (repeat' first|(refine fI 4 ?_;(and_intros <;> intros))|fail)
     all_goals rw[h8]
     (repeat' first|(refine fI 6 ?_;(and_intros <;> intros))|fail)
     all_goals try (exfalso;omega)
     all_goals try (exfalso;simp only[IntKind.wrap_i64] at *;omega)
     all_goals (try rw[Ql])
     (refine jJ gu hp ?_;and_intros <;> intros)
     all_goals first|exact J5|skip
   ·unfold kC at hm;rw[Ih _ _ (by unfold cV;dsimp only;rw[pC];exact fun h=>hw h.2),al rfl] at hm;dsimp only at hm;(repeat' first|(refine fI 4 ?_;(and_intros <;> intros))|fail)
    all_goals rw[h8]
    (try refine ay ?_;and_intros <;> intros)
    all_goals first
     | (exact⟨(k+1,a8,q),b4,(by exact⟨au,by rw[Dy];exact hm,hK,hq,fun i hi=>dc i (by omega)⟩),ba⟩)
     | (exfalso;omega)
     | (exfalso;simp only[IntKind.wrap_i64] at *;omega)
     | skip
  ·unfold kC at hm;rw[Ih _ _ (by unfold cV;dsimp only;rw[pC];exact fun h=>h8 h.1),al rfl] at hm;dsimp only at hm;replace h8:(aC.getD k default).Over=true:=by revert h8;cases (aC.getD k default).Over <;> simp
   (repeat' first|(refine fI 4 ?_;(and_intros <;> intros))|fail)
   all_goals rw[h8]
   (try refine ay ?_;and_intros <;> intros)
   all_goals first|exact Ik|skip
 ·have ca:k=aC.length:=by omega
  subst ca;rw[ra] at hm;unfold kC at hm
  cases hm
  rw[al rfl] at ap;dsimp only at ap;rw[YB lB] at ap;unfold gT at lB;by_cases hh:bc.Max - bc.bG<350
  ·rw[al hh] at ap;have hp:=yr ⟨aA,space,bg,⟨(max bc.Max (min (bc.bG+700) 4611686018427387903)),bc.bG⟩,bp,ids,bJ,opened,a8,bF,q,last,bK,bS,code⟩ (sa (max bc.Max (min (bc.bG+700) 4611686018427387903))) (by exact hq);unfold fE dM at ap;unfold fE cj at hp;unfold sa at *;dsimp only at hp ap;generalize fK q ⟨16,0,(max bc.Max (min (bc.bG+700) 4611686018427387903)),false,0,[],[]⟩=T at *;obtain ⟨rP,p6⟩:=T;dsimp only at *
   cases ap
   have YC:IntKind.i64.wrap (bc.bG+700)=bc.bG+700:=by rw[IntKind.wrap_i64];omega
   (repeat' first|(refine fI 14 ?_;(and_intros <;> intros))|fail)
   all_goals try (exfalso;omega)
   all_goals try (exfalso;simp only[IntKind.wrap_i64] at *;omega)
   all_goals (try rw[YC])
   (refine bH hp ?_;and_intros <;> intros)
   all_goals first|exact J5|skip
  ·rw[ah hh] at ap
   cases ap
   (try refine ay ?_;and_intros <;> intros)
   all_goals first|exact J5|skip
end Go.Proofs.YtendheafcbickaaGreat
