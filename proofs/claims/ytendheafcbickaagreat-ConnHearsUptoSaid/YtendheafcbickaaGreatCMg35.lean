/-
  SEVERAL TEXTS IN ONE: each with its own comment.
-/
import Derived.Test.YtendheafcbickaaGreatCHrF
set_option linter.unusedVariables false
set_option linter.unusedSimpArgs false
set_option maxHeartbeats 16000000
namespace Go.Proofs.YtendheafcbickaaGreat
variable {B:Nat} {c:aG} {f:bo} {k n now off:Int} {p:gA} {s:ee}
section
set_option maxRecDepth 100000
attribute [local irreducible] cE a6 bu GStep Fn cg bf cA
theorem P4 (l:List aK) (n:Int) (ao:l.length * 16<=140737488351232) (av:∀ r ∈ l,0<=r.bE/\r.bE<=r.bz/\r.bz<4611686018427387904) (ai:0<=n) (J:n<=4611686018427387904):Fn Tryz.prog 258 [.ro (l.map aB),I n] (ab (eQ l n)):=by
 refine aH Tryz.func258 ?_;(try refine ay ?_;and_intros <;> intros);refine cv (fun k:Nat=>⟨[(1,I n),(7,.ro (l.map aB)),(8,I l.length),(9,I k)],[],0,Tryz.f258.ntmps⟩)
  (fun k=>k<=l.length/\(l.take k).any (o8 n)=false) (fun k=>l.length - k) 0 ⟨cm _,rfl⟩ dV ?_
 rintro k ⟨ag,br⟩;by_cases au:k<l.length
 ·have aw:=P5 (q:=o8 n) au;rw[br,Bool.false_or] at aw;have aca:=av _ (cc au);by_cases c:(l.getD k default).bE<=n/\n<=(l.getD k default).bz
  ·have hq:o8 n (l.getD k default)=true:=by unfold o8;rw[fM,decide_eq_true_eq,decide_eq_true_eq];exact c
   rw[show eQ l n=true from P6 au hq];(refine mc ?_;and_intros <;> intros)
   all_goals exact bX (hr:=rfl)
  ·have hq:o8 n (l.getD k default)=false:=by unfold o8;rw[Bool.and_eq_false_iff,decide_eq_false_iff_not,decide_eq_false_iff_not];omega
   (refine mc ?_;and_intros <;> intros)
   all_goals (exact⟨k+1,(by omega),(by exact⟨au,by rw[aw];exact hq⟩),ba⟩)
 ·rw[show l.take k=l from j9 (by omega)] at br;rw[show eQ l n=false from br];(try refine ay ?_;and_intros <;> intros)
  all_goals exact bX (hr:=rfl)
def o9 (l:List aK) (top:Int) (p:eN):Bool:=decide (p.Number<=top - 3) && !eQ l p.Number
def pa (l:List aK) (top:Int) (p:eN):Bool:=!decide (p.Number<=top - 3) && !eQ l p.Number
theorem XK {s:ey} {l:List aK} (h:lf s=0) (hc:ks s.Next l=0) (aw:s.bI.any (eQ l)=false):fr s l=(⟨s.Next,s.aR.filter (pa l (mO s l)),mO s l,s.cD,s.bI⟩,s.aR.filter (fun p=>eQ l p.Number),s.aR.filter (o9 l (mO s l)),0):=by
 rw[GZ h hc aw];unfold n9 yM;rw[List.filter_filter,List.filter_filter];rfl
theorem VZ (s:ey) (l:List aK) (hw:gM s) (ao:l.length * 16<=140737488351232):Fn Tryz.prog 259 [.agg (iB s),.ro (l.map aB)] (r7 (fr s l)):=by
 have J:=FZ s hw;rcases r8 s with⟨ai,ae⟩ | ⟨ai,ae⟩
 ·rw[ai] at J;have hh:=ae.1.1;unfold ku at hh;refine aH Tryz.func259 ?_;(refine bH J ?_;and_intros <;> intros);refine cv (fun k:Nat=>⟨[(2,.ptr 0 0 0 0),(4,.ptr 1 0 0 0),(1,.ro (l.map aB)),(26,.ro (l.map aB)),(27,I l.length),(28,I k)],[(0,some (.box 43 (iB s))),(1,some (.box 43 [I 0,aX,I 0,aX,aX]))],2,Tryz.f259.ntmps⟩)
   (fun k=>k<=l.length/\ks s.Next (l.drop k)=ks s.Next l) (fun k=>l.length - k) 0 ⟨cm _,rfl⟩ dV ?_
  rintro k ⟨ag,hc⟩;by_cases au:k<l.length
  ·have hd:=MY (nx:=s.Next) au;by_cases b6:(l.getD k default).bE<0\/(l.getD k default).bz<(l.getD k default).bE
   ·rw[al b6] at hd;rw[CI ai (hc.symm.trans hd) (by omega)];(refine mc ?_;and_intros <;> intros)
    all_goals (unfold qs;(exact gS))
   ·rw[ah b6] at hd;by_cases cU:s.Next<=(l.getD k default).bz
    ·rw[al cU] at hd;rw[CI ai (hc.symm.trans hd) (by omega)];(refine mc ?_;and_intros <;> intros)
     all_goals (unfold qs;(exact gS))
    ·rw[ah cU] at hd;rw[hd] at hc;(refine mc ?_;and_intros <;> intros)
     all_goals (exact⟨k+1,(by omega),⟨au,hc⟩,ba⟩)
  ·have ca:k=l.length:=by omega
   subst ca;rw[iJ] at hc;have hc:ks s.Next l=0:=hc.symm;have av:=CG hc;have oq:∀ r ∈ l,0<=r.bE/\r.bE<=r.bz/\r.bz<4611686018427387904:=fun r hr=>by have:=av r hr;omega
   (try refine ay ?_;and_intros <;> intros);refine cv (fun j:Nat=>⟨[(2,.ptr 0 0 0 0),(4,.ptr 1 0 0 0),(1,.ro (l.map aB)),(47,.ro (s.bI.map encI)),(48,I s.bI.length),(49,I j)],[(0,some (.box 43 (iB s))),(1,some (.box 43 [I 0,aX,I 0,aX,aX]))],2,Tryz.f259.ntmps⟩)
    (fun j=>j<=s.bI.length/\(s.bI.take j).any (eQ l)=false) (fun j=>s.bI.length - j) 0 ⟨cm _,rfl⟩ dV ?_
   rintro j ⟨ad,br⟩;by_cases fh:j<s.bI.length
   ·have u9:=ae.2.2 j fh;unfold o0 at u9;have e7:=P4 l (s.bI.getD j default) ao oq (by omega) (by omega);have l4:=M3 (q:=eQ l) fh
    cases hq:eQ l (s.bI.getD j default)
    ·rw[hq] at e7 l4;rw[br,Bool.false_or] at l4;(refine bH e7 ?_;and_intros <;> intros)
     all_goals (exact⟨j+1,(by omega),⟨fh,l4⟩,ba⟩)
    ·rw[hq] at e7;rw[M2 ai hc (M4 fh hq)];(refine bH e7 ?_;and_intros <;> intros)
     all_goals (unfold qs;(exact gS))
   ·have br:s.bI.any (eQ l)=false:=by rw[j9 (by omega)] at br;exact br
    (try refine ay ?_;and_intros <;> intros);refine cv (fun k:Nat=>⟨[(2,.ptr 0 0 0 0),(4,.ptr 1 0 0 0),(1,.ro (l.map aB)),(58,.ro (l.map aB)),(59,I l.length),(60,I k)],[(0,some (.box 43 [I s.Next,.ro (s.aR.map bC),I (qq l s.c9 k),.ro (s.cD.map aB),.ro (s.bI.map encI)])),(1,some (.box 43 [I 0,aX,I 0,aX,aX]))],2,Tryz.f259.ntmps⟩)
     (fun k=>k<=l.length) (fun k=>l.length - k) 0 (cm _) dV ?_
    intro k ag;by_cases au:k<l.length
    ·have ht:=GY au s.c9;(try refine ay ?_;and_intros <;> intros);rw[<- ht]
     all_goals (exact⟨k+1,(by omega),au,ba⟩)
    ·have ca:k=l.length:=by omega
     subst ca;have G1:=CH hh.2.2.1 hh.2.2.2.1 av l.length (e4 _);rw[XK ai hc br];have XL:qq l s.c9 l.length=mO s l:=rfl;rw[XL] at *;generalize mO s l=top at *;(try refine ay ?_;and_intros <;> intros);refine cv (fun k:Nat=>⟨[(2,.ptr 0 0 0 0),(4,.ptr 1 0 0 0),(1,.ro (l.map aB)),(72,.ro (s.aR.map bC)),(73,I s.aR.length),(74,I k),(15,.own 2),(16,.own 3),(17,.own 4)],[(0,some (.box 43 [I s.Next,.ro (s.aR.map bC),I top,.ro (s.cD.map aB),.ro (s.bI.map encI)])),(1,some (.box 43 [I 0,aX,I 0,aX,aX])),(2,some (.row 198 4 (((s.aR.take k).filter (fun p=>eQ l p.Number)).map bC))),(3,some (.row 198 4 (((s.aR.take k).filter (o9 l top)).map bC))),(4,some (.row 198 4 (((s.aR.take k).filter (pa l top)).map bC)))],5,Tryz.f259.ntmps⟩)
      (fun k=>k<=s.aR.length) (fun k=>s.aR.length - k) 0 (cm _) ((iR (n:=2) (t:=15) 198 4 rfl rfl rfl).trans ((iR (n:=3) (t:=16) 198 4 rfl rfl rfl).trans ((iR (n:=4) (t:=17) 198 4 rfl rfl rfl).trans dV))) ?_
     intro k ag;have nN:=vE s.aR k (fun p=>eQ l p.Number);have k3:=vE s.aR k (o9 l top);have acb:=vE s.aR k (pa l top);by_cases au:k<s.aR.length
     ·have u9:=ae.2.1 k au;unfold mx at u9;have e7:=P4 l (s.aR.getD k default).Number ao oq (by omega) (by omega)
      cases hq:eQ l (s.aR.getD k default).Number
      ·rw[hq] at e7;have aI:=congrArg (List.map bC) (sM (q:=fun p=>eQ l p.Number) au hq).symm;by_cases c:(s.aR.getD k default).Number<=top - 3
       ·have a7:=vF (q:=o9 l top) au (by unfold o9;rw[hq,decide_eq_true c];rfl);have cC:=congrArg (List.map bC) (sM (q:=pa l top) au (by unfold pa;rw[hq,decide_eq_true c];rfl)).symm;(repeat' first|refine bh e7 ?_|(refine kI (r:=((s.aR.take (k+1)).filter (o9 l top)).map bC) ?_ ?_ ?_ ?_ (h:=?_);(exact pV);(exact dm);(exact dp);(exact dq))|(refine k9 (r:=((s.aR.take (k+1)).filter (o9 l top)).map bC) ?_ ?_ ?_ ?_ (h:=?_);(exact pV);(exact dm);(exact dp);(exact dq))|(refine la (r:=((s.aR.take (k+1)).filter (o9 l top)).map bC) ?_ ?_ ?_ ?_ (h:=?_);(exact pV);(exact dm);(exact dp);(exact dq))|(refine kl (r:=((s.aR.take (k+1)).filter (o9 l top)).map bC) ?_ ?_ ?_ ?_ (h:=?_);(exact pV);(exact dm);(exact dp);(exact dq))|(refine ay ?_;(and_intros <;> intros))|fail)
        all_goals (exact⟨k+1,(by omega),au,ba⟩)
       ·have a7:=congrArg (List.map bC) (sM (q:=o9 l top) au (by unfold o9;rw[hq,decide_eq_false c];rfl)).symm;have cC:=vF (q:=pa l top) au (by unfold pa;rw[hq,decide_eq_false c];rfl);(repeat' first|refine bh e7 ?_|(refine kI (r:=((s.aR.take (k+1)).filter (pa l top)).map bC) ?_ ?_ ?_ ?_ (h:=?_);(exact En);(exact dm);(exact dp);(exact dq))|(refine k9 (r:=((s.aR.take (k+1)).filter (pa l top)).map bC) ?_ ?_ ?_ ?_ (h:=?_);(exact En);(exact dm);(exact dp);(exact dq))|(refine la (r:=((s.aR.take (k+1)).filter (pa l top)).map bC) ?_ ?_ ?_ ?_ (h:=?_);(exact En);(exact dm);(exact dp);(exact dq))|(refine kl (r:=((s.aR.take (k+1)).filter (pa l top)).map bC) ?_ ?_ ?_ ?_ (h:=?_);(exact En);(exact dm);(exact dp);(exact dq))|(refine ay ?_;(and_intros <;> intros))|fail)
        all_goals (exact⟨k+1,(by omega),au,ba⟩)
      ·rw[hq] at e7;have aI:=vF (q:=fun p=>eQ l p.Number) au hq;have a7:=congrArg (List.map bC) (sM (q:=o9 l top) au (by unfold o9;rw[hq];simp)).symm;have cC:=congrArg (List.map bC) (sM (q:=pa l top) au (by unfold pa;rw[hq];simp)).symm;(repeat' first|refine bh e7 ?_|(refine kI (r:=((s.aR.take (k+1)).filter (fun p=>eQ l p.Number)).map bC) ?_ ?_ ?_ ?_ (h:=?_);(exact pW);(exact dm);(exact dp);(exact dq))|(refine k9 (r:=((s.aR.take (k+1)).filter (fun p=>eQ l p.Number)).map bC) ?_ ?_ ?_ ?_ (h:=?_);(exact pW);(exact dm);(exact dp);(exact dq))|(refine la (r:=((s.aR.take (k+1)).filter (fun p=>eQ l p.Number)).map bC) ?_ ?_ ?_ ?_ (h:=?_);(exact pW);(exact dm);(exact dp);(exact dq))|(refine kl (r:=((s.aR.take (k+1)).filter (fun p=>eQ l p.Number)).map bC) ?_ ?_ ?_ ?_ (h:=?_);(exact pW);(exact dm);(exact dp);(exact dq))|(refine ay ?_;(and_intros <;> intros))|fail)
       all_goals (exact⟨k+1,(by omega),au,ba⟩)
     ·rw[show s.aR.take k=s.aR from j9 (by omega)];(try refine ay ?_;and_intros <;> intros)
      all_goals (unfold r7;(exact gS))
 ·rw[M1 (by omega)];rw[ai] at J ⊢;refine aH Tryz.func259 ?_;(refine bH J ?_;and_intros <;> intros)
  all_goals (unfold qs;(exact gS))
theorem Oo (s:ey) (l:List aK) (hw:gM s):gM (fr s l).1/\(fr s l).2.1.length * 48<=140737488355328/\(∀ y,y ∈ (fr s l).2.1->ji y)/\(fr s l).2.2.1.length * 48<=140737488355328/\(∀ y,y ∈ (fr s l).2.2.1->ji y):=by
 have aU:gM ⟨0,[],0,[],[]⟩:=by unfold gM aE;simp
 have ma:gM ⟨0,[],0,[],[]⟩/\([]:List eN).length * 48<=140737488355328/\(∀ y,y ∈ ([]:List eN)->ji y)/\([]:List eN).length * 48<=140737488355328/\(∀ y,y ∈ ([]:List eN)->ji y):=⟨aU,by simp,(fun y aj=>by cases aj),by simp,(fun y aj=>by cases aj)⟩;rcases r8 s with⟨ai,ae⟩ | ⟨ai,ae⟩
 ·by_cases hc:ks s.Next l=0
  ·cases br:s.bI.any (eQ l)
   ·rw[GZ ai hc br];have av:=CG hc;have hh:=ae.1.1;unfold ku at hh;have G1:=CH hh.2.2.1 hh.2.2.2.1 av l.length (e4 _);have ao:=hw.2.1;have hr:(n9 s l).length<=s.aR.length:=oA _ _;have hq:=oA (fun p=>!decide (p.Number<=mO s l - 3)) (n9 s l);have acd:=oA (fun p=>decide (p.Number<=mO s l - 3)) (n9 s l);have uW:(yM s l).length<=s.aR.length:=oA _ _;have hm:∀ y,y ∈ n9 s l->ji y:=fun y aj=>hw.2.2.1 y (List.mem_filter.1 aj).1
    refine ⟨⟨hw.1,by dsimp only;omega,fun y aj=>hm y (List.mem_filter.1 aj).1,?_,hw.2.2.2.2⟩,by dsimp only;omega,(fun y aj=>hw.2.2.1 y (List.mem_filter.1 aj).1),by dsimp only;omega,(fun y aj=>hm y (List.mem_filter.1 aj).1)⟩;unfold mO aE;dsimp only;omega
   ·unfold fr;rw[ah (by omega),hc,ah (by omega),al br];exact ma
  ·unfold fr;rw[ah (by omega),al hc];exact ma
 ·unfold fr;rw[al (by omega)];exact ma
def ace (s:List UInt8) (u:Nat) (e:Int):List V:=[.ro (s.map bm),I u,I e]
def eT (s:List UInt8) (e:Int):Nat×List UInt8×Int:=
 if ¬ e=0 then(0,s,e) else if (Eo s).2.2=0 then((Eo s).1,s.drop (Eo s).2.1,0) else(0,s,4)
def xO (n:Nat) (s:List UInt8) (e:Int):List UInt8×List UInt8×Int:=
 if ¬ e=0 then([],s,e) else if s.length<n then([],s,4) else(s.take n,s.drop n,0)
def XM (e c:Int):Int:=if e=0 then c else e
def acf (A:Nat) (s:List UInt8) (e:Int):List V:=[.ro (s.map bm),I ((A:Int) - (s.length:Int)),I e]
def Ep (i:Nat) (hi:Int) (out:List aK) (s:List UInt8) (e:Int):Int×List aK×List UInt8×Int:=
 if i=0 then(hi,out++[⟨hi - (eT s e).1,hi⟩],(eT s e).2.1,if (eT s e).2.2=0/\hi - (eT s e).1<0 then 6 else(eT s e).2.2)
 else((out.getD (i - 1) default).bE - (eT s e).1 - 2,out++[⟨(out.getD (i - 1) default).bE - (eT s e).1 - 2 - (eT (eT s e).2.1 (eT s e).2.2).1,(out.getD (i - 1) default).bE - (eT s e).1 - 2⟩],
  (eT (eT s e).2.1 (eT s e).2.2).2.1,if (eT (eT s e).2.1 (eT s e).2.2).2.2=0/\(out.getD (i - 1) default).bE - (eT s e).1 - 2 - (eT (eT s e).2.1 (eT s e).2.2).1<0 then 6 else(eT (eT s e).2.1 (eT s e).2.2).2.2)
def P7:Nat->Nat->Int->List aK->List UInt8->Int->List aK×List UInt8×Int
 | 0,_,_,out,s,e=>(out,s,e)
 | m+1,i,hi,out,s,e=>if ¬ e=0 then(out,s,e) else P7 m (i+1) (Ep i hi out s e).1 (Ep i hi out s e).2.1 (Ep i hi out s e).2.2.1 (Ep i hi out s e).2.2.2
def XN (n:Nat) (hi:Int) (s:List UInt8) (e:Int):List aK×List UInt8×Int:=
 if e=0/\6<=n then([],s,1) else P7 (n+1) 0 hi [] s e
def Jk (s:List UInt8) (e:Int):List aK×List UInt8×Int:=
 XN (eT (eT s e).2.1 (eT s e).2.2).1 (eT s e).1 (eT (eT s e).2.1 (eT s e).2.2).2.1 (eT (eT s e).2.1 (eT s e).2.2).2.2
abbrev FS:=bo×List UInt8×Int
def XO (z:FS):FS:=({ z.1 with ec:=(Jk z.2.1 z.2.2).1 },(Jk z.2.1 z.2.2).2.1,(Jk z.2.1 z.2.2).2.2)
def XP (z:FS):FS:=({ z.1 with Id:=((eT z.2.1 z.2.2).1:Int) },(eT z.2.1 z.2.2).2.1,(eT z.2.1 z.2.2).2.2)
def XQ (z:FS):FS:=({ z.1 with aP:=((eT z.2.1 z.2.2).1:Int) },(eT z.2.1 z.2.2).2.1,(eT z.2.1 z.2.2).2.2)
def XR (z:FS):FS:=({ z.1 with Code:=((eT z.2.1 z.2.2).1:Int) },(eT z.2.1 z.2.2).2.1,(eT z.2.1 z.2.2).2.2)
def XS (z:FS):FS:=({ z.1 with Code:=IntKind.i64.wrap ((Er 0 (xO 8 z.2.1 z.2.2).1:Nat):Int) },(xO 8 z.2.1 z.2.2).2.1,(xO 8 z.2.1 z.2.2).2.2)
def Jl (z:FS):Int:=if 120<(eT z.2.1 z.2.2).1 then XM (eT z.2.1 z.2.2).2.2 1 else(eT z.2.1 z.2.2).2.2
def XT (z:FS):FS:=({ z.1 with Data:=(xO (eT z.2.1 z.2.2).1 (eT z.2.1 z.2.2).2.1 (Jl z)).1 },(xO (eT z.2.1 z.2.2).1 (eT z.2.1 z.2.2).2.1 (Jl z)).2.1,(xO (eT z.2.1 z.2.2).1 (eT z.2.1 z.2.2).2.1 (Jl z)).2.2)
def Es (b:Bool) (f:FS->FS) (z:FS):FS:=if b=true then f z else z
def XU (w c:Bool) (z:FS):FS:=if w=true then XS z else Es c XR z
def XV (s:List UInt8) (z:FS):FS:=Es (fH s 100) XT (XU (fH s 119) (fH s 99 || fH s 119) (Es (fH s 111) XQ (Es (fH s 105) XP z)))
def Bc (e:Int):bo×Int×Int:=(⟨0,0,0,false,0,[],[]⟩,0,e)
def XW (A:Nat) (z:FS):bo×Int×Int:=if ¬ z.2.2=0 then Bc z.2.2 else if ¬ gx z.1=0 then Bc (gx z.1) else(z.1,(A:Int) - (z.2.1.length:Int),0)
def XX (A:Nat) (K:Int) (fin:Bool) (s:List UInt8):bo×Int×Int:=
 if q6 K=false then Bc 2 else XW A (XV (hasB K) (if K=2 then XO (⟨K,0,0,fin,0,[],[]⟩,s,0) else(⟨K,0,0,fin,0,[],[]⟩,s,0)))
def XY (A n:Nat) (s:List UInt8) (e:Int):bo×Int×Int:=
 if ¬ e=0 then Bc e else if n=8 then Bc 2 else XX A (if n=14\/n=15 then 8 else n) (decide (n=15)) s
def acg (l:List UInt8):bo×Int×Int:=XY l.length (eT l 0).1 (eT l 0).2.1 (eT l 0).2.2
def ach (r:bo×Int×Int):V:=.bN [.agg (aO r.1),I r.2.1,I r.2.2]
structure Good (A:Nat) (z:FS):Prop where
 k:aE z.1.Kind
 i:aE z.1.Id
 o:aE z.1.aP
 c:aE z.1.Code
 r:z.1.ec=[]
 d:z.1.Data=[]
 l:z.2.1.length<=A
def aci (l:List aK):Prop:=∀ y,y ∈ l->fB y
theorem Gg (h:gx f=0):f.Data.length<=120/\f.ec.length<=6:=by
 unfold gx at h;split at h
 ·cases h
 split at h
 ·cases h
 rename_i J aa;omega
end
section
set_option maxRecDepth 100000
theorem Ov (p:gA) (n s:Int) (hw:h2 p):h2 (pF p n s).1:=by
 unfold pF;split
 ·unfold h2 aE;dsimp only;omega
 ·split
  ·unfold h2 aE;dsimp only;omega
  ·rename_i h _;obtain ⟨ae,ao⟩:=w2 (p:=p) (l:=[n,s]) (by omega);have br:=ao n (by simp);unfold mQ at br;unfold mP at ae;have hd:0<=100 * n / p.bj:=Int.ediv_nonneg (by omega) (by omega);unfold h2 aE at hw;generalize 100 * n / p.bj=d at *;split
   ·unfold h2 aE;dsimp only;omega
   ·unfold h2 aE;dsimp only;rw[Int.min_def];split <;> split <;> omega
theorem Ib (h:c3 c) (ar:h2 p):c3 (kL c p):=⟨h.op,h.jf,h.id,h.dv,h.mg,h.sp,ar,h.a8,h.h7,h.n2⟩
theorem Ic (h:cK B c):cK B (kL c p):=⟨h.eg,h.lD,h.gK,h.iK,h.nn⟩
theorem Oq {s:ey} (h:c3 c) (aw:bT.gM s):c3 (iy c s):=⟨h.op,h.jf,h.id,h.dv,h.mg,aw,h.lC,h.a8,h.h7,h.n2⟩
theorem Ou {s:ey} (h:cK B c):cK B (iy c s):=⟨h.eg,h.lD,h.gK,h.iK,h.nn⟩
theorem XZ {l:List cS} {q:List bo} (h:c3 c):c3 (ml c l q):=⟨h.op,h.jf,h.id,h.dv,h.mg,h.sp,h.lC,h.a8,h.h7,h.n2⟩
theorem Jm {y:cS} (h:lz B y) (aw:bT.hg s) (hn:s.Next=y.Out.Next) (hd:s.Data=y.Out.Data):lz B { y with Out:=s }:=
 ⟨h.1,h.2.1,h.2.2.1,h.2.2.2.1,aw,by dsimp only;rw[hn,hd];exact h.2.2.2.2.2.1,h.2.2.2.2.2.2⟩
theorem X0 {fin:Bool} (ai:(mj s off n fin).2=0):(mj s off n fin).1.Next=s.Next/\(mj s off n fin).1.Data=s.Data:=by
 unfold mj at *;by_cases fz:kd s off n fin=0
 ·rw[ah (by omega)];exact⟨rfl,rfl⟩
 ·rw[al fz] at ai;exact absurd ai fz
theorem Jn (hf:bT.dx f) (h:aE n):bT.dx (uK f n):=⟨hf.1,hf.2.1,h,hf.2.2.2.1,hf.2.2.2.2.1,hf.2.2.2.2.2.1,hf.2.2.2.2.2.2⟩
theorem X1 (ad:c3 c) (ao:cK B c) (hf:bT.dx f) (U:f.Kind=17->b7 c.aq f.Id<c.aq.length):bT.dx (uJ c f):=by
 unfold uJ;split
 ·have:=ad.dv;unfold gT at this;exact Jn hf (by unfold aE;omega)
 ·split
  ·have:=ad.jf;exact Jn hf (by unfold aE;omega)
  ·split
   ·rename_i h;exact Jn hf (ao.gK _ (cc (U h))).2.1.2.2.2.2
   ·exact hf
theorem X2 (ad:c3 c) (h:cK B c) (hf:bT.dx f):cK B (ml c c.aq (nl c f).1):=by
 have hle:=q7 c.aq f.Id;unfold nl;split
 ·exact h
 ·split
  ·exact h
  ·rename_i qc
   exact Bd h (X1 ad h hf (fun k=>by
    rcases Nat.lt_or_ge (b7 c.aq f.Id) c.aq.length with J|J
    ·exact J
    ·exact absurd ⟨k,.inl (by omega)⟩ qc))
theorem X3 (ad:c3 c) (h:cK B c) (hf:bT.dx f):cK B (ml c (iV c f).1 (iV c f).2.1):=by
 unfold iV;split
 ·split
  ·rename_i U;split
   ·rename_i ai;have aj:=h.gK _ (cc U);obtain ⟨a,b⟩:=X0 ai;exact vG h U rfl (Jm aj (Gc aj.2.2.2.2.1 ai) a b)
   ·exact h
  ·exact h
 ·split
  ·exact X2 ad h hf
  ·exact h
theorem P8 {B:Nat}:∀ (l:List bo) {c:aG},c3 c->cK B c->(∀ f ∈ l,bT.dx f)->c3 (j7 c l).1/\cK B (j7 c l).1
 | [],c,ad,h,_=>⟨ad,h⟩
 | f :: l,c,ad,h,hf=>by
  unfold j7;split
  ·exact P8 l (XZ ad) (X3 ad h (hf f fV)) (fun g av=>hf g (ha _ av))
  ·exact⟨ad,h⟩
theorem P9 {B:Nat} {now:Int}:∀ (l:List eN) {c:aG},c3 c->cK B c->(∀ p ∈ l,bT.ji p)->c3 (jN now c l).1/\cK B (jN now c l).1
 | [],c,ad,h,_=>⟨ad,h⟩
 | p :: l,c,ad,h,ar=>by
  obtain ⟨fF,a2⟩:=P8 p.Frames (Ib ad (Oh _ _ _ _ ad.lC):c3 (kL c (rT c p now))) (Ic h) (ar p fV).2.2.2.2;unfold jN;split
  ·exact P9 l fF a2 (fun g av=>ar g (ha _ av))
  ·exact⟨fF,a2⟩
theorem X4 (s:ee) (off n:Int) (fin:Bool):aE (lF s off n fin).2:=by
 unfold lF;split
 ·rcases xP s off n fin with⟨ai,e⟩ | ⟨_,h,c6,e⟩ | ⟨ai,bP,ar,e⟩ <;> (rw[e];unfold aE;dsimp only;first|omega|(have:=r6 s;omega))
 ·unfold aE;dsimp only;omega
theorem Ow {x:bo} (ad:c3 c) (h:cK B c):c3 (ny c x).1/\cK B (ny c x).1/\aE (ny c x).2:=by
 unfold ny;split
 ·rename_i U;split
  ·rename_i ai;obtain ⟨a,b,d⟩:=Oc (h.gK _ (cc U.2)).2.2.2.2.1 ai;exact⟨xQ ad,vG h U.2 rfl (Jm (h.gK _ (cc U.2)) a b d),by unfold aE;dsimp only;omega⟩
  ·exact⟨ad,h,X4 _ _ _ _⟩
 ·exact⟨ad,h,by unfold aE;dsimp only;omega⟩
theorem Qa {B:Nat}:∀ (l:List bo) {c:aG},c3 c->cK B c->c3 (kv c l).1/\cK B (kv c l).1/\aE (kv c l).2
 | [],c,ad,h=>⟨ad,h,by unfold kv aE;dsimp only;omega⟩
 | f :: l,c,ad,h=>by
  obtain ⟨a,b,d⟩:=Ow (x:=f) ad h;unfold kv;split
  ·exact Qa l a b
  ·exact⟨a,b,d⟩
theorem Qb {B:Nat}:∀ (l:List eN) {c:aG},c3 c->cK B c->c3 (kQ c l).1/\cK B (kQ c l).1/\aE (kQ c l).2
 | [],c,ad,h=>⟨ad,h,by unfold kQ aE;dsimp only;omega⟩
 | p :: l,c,ad,h=>by
  obtain ⟨a,b,d⟩:=Qa p.Frames (Ib ad (Ov _ _ _ ad.lC):c3 (kL c (r9 c p))) (Ic h);unfold kQ;split
  ·exact Qb l a b
  ·exact⟨a,b,d⟩
theorem Ot (s:ey) (l:List aK) (hw:bT.gM s):bT.gM (fr s l).1:=by
 have ht:=(Oo s l (bT.zj s hw)).1.2.2.2.1;obtain ⟨w0,c4,du,w3,e9,fa,gy,hL⟩:=hw;have aU:bT.gM ⟨0,[],0,[],[]⟩:=by unfold bT.gM aE;simp
 unfold fr at *;split
 ·exact aU
 ·rename_i J;rw[ah J] at ht;split
  ·exact aU
  ·rename_i aa;rw[ah aa] at ht;split
   ·exact aU
   ·rename_i az;rw[ah az] at ht;have k5:=oA (fun p:eN=>!decide (p.Number<=mO s l - 3)) (n9 s l);have hU:(n9 s l).length<=s.aR.length:=by unfold n9;exact oA _ _
    refine ⟨w0,by dsimp only;omega,fun y aj=>du y ?_,ht,e9,fa,gy,hL⟩;have:=(List.mem_filter.1 aj).1;unfold n9 at this;exact(List.mem_filter.1 this).1
theorem X5 (s:ey) (l:List aK):aE (fr s l).2.2.2:=by
 have:=r8 s;unfold fr;split
 ·rcases r8 s with⟨ai,_⟩ | ⟨ai,_⟩ <;> (rw[ai];unfold aE;dsimp only;omega)
 ·split
  ·rcases MZ s.Next l with e|e|e <;> (rw[e];unfold aE;dsimp only;omega)
  ·split <;> (unfold aE;dsimp only;omega)
theorem X6 (ad:c3 c) (h:cK B c):oj B (qt c f now):=by
 obtain ⟨a,b,d⟩:=Qb (fr c.aQ f.ec).2.1 (Oq ad (Ot c.aQ f.ec ad.sp)) (Ou h:cK B (iy c (fr c.aQ f.ec).1));unfold qt;split
 ·split
  ·have ar:∀ p ∈ (fr c.aQ f.ec).2.2.1,bT.ji p:=fun p ar=>ad.sp.2.2.1 p ((Oa c.aQ f.ec).2 p ar)
   obtain ⟨aI,a7⟩:=P9 (now:=now) _ a b ar;exact⟨aI,Qc _ _,fun _=>a7⟩
  ·exact⟨a,d,fun _=>b⟩
 ·exact⟨ad,X5 _ _,fun _=>h⟩
theorem Qd {f:hz} (h:(j3 f n).2=0):gT (j3 f n).1:=by
 unfold j3 at *;split
 ·rename_i ae;rw[al ae] at h;split
  ·rename_i J;rw[al J] at h;exact absurd h (by decide)
  ·rename_i J;rw[ah J] at h;split
   ·rename_i aa;rw[al aa] at h;exact absurd h (by decide)
   ·unfold gT at *;dsimp only;omega
 ·rename_i ae;rw[ah ae] at h;exact absurd h (by decide)
theorem Qe (f:hz) (n:Int):aE (j3 f n).2:=by
 unfold j3;split
 ·split
  ·unfold aE;dsimp only;omega
  ·split <;> (unfold aE;dsimp only;omega)
 ·unfold aE;dsimp only;omega
theorem Qf (f:hz) (n:Int):gT (k7 f n).1/\aE (k7 f n).2:=by
 have aU:gT ⟨0,0⟩:=by unfold gT;decide
 unfold k7;split
 ·rename_i ae;split
  ·exact⟨aU,by unfold aE;dsimp only;omega⟩
  ·unfold gT at *;refine ⟨?_,by unfold aE;dsimp only;omega⟩;dsimp only;rw[Int.max_def];split <;> omega
 ·exact⟨aU,by unfold aE;dsimp only;omega⟩
theorem Be {f:hz} (h:c3 c) (hf:gT f):c3 (dM c f):=⟨h.op,h.jf,h.id,hf,h.mg,h.sp,h.lC,h.a8,h.h7,h.n2⟩
theorem Jo {f:hz} (h:cK B c):cK B (dM c f):=⟨h.eg,h.lD,h.gK,h.iK,h.nn⟩
theorem X7 (h:c3 c) (hn:0<=n/\n<=4):c3 (gJ c n):=⟨h.op,h.jf,h.id,h.dv,h.mg,h.sp,h.lC,h.a8,hn,h.n2⟩
theorem X8 (h:cK B c):cK B (gJ c n):=⟨h.eg,h.lD,h.gK,h.iK,h.nn⟩
theorem X9 {w:Int} (ai:0<=off) (J:off<=w) (aa:w<=4611686018427387903):ev ⟨off,[],off,w⟩=0:=by
 have av:gj ⟨off,[],off,w⟩:=by unfold gj;dsimp only;simp;omega
 unfold ev;rw[al];refine ⟨av,?_⟩;show lZ ⟨off,[],off,w⟩ (some off)=true;unfold lZ;simp;omega
theorem Ya {n:Nat} (ad:c3 c) (h:cK B c) (hn:n<c.aq.length) (hf:aE f.aP):oj B (oD c n f):=by
 have dN:=h.gK _ (cc hn);have dN:lz B (cV c n):=dN;obtain ⟨p8,SK,oG,SL,SM⟩:=pr dN.2.2.1;have oH:=wB oG;have SN:=(sV oG).1;unfold gj at p8;unfold oD;split
 ·exact⟨ad,by unfold aE;dsimp only;omega,fun _=>h⟩
 ·split
  ·exact⟨ad,by unfold aE;dsimp only;omega,fun _=>h⟩
  ·rename_i t1;split
   ·exact⟨ad,by unfold aE;dsimp only;omega,fun _=>h⟩
   ·rename_i t2;split
    ·exact⟨ad,Qe _ _,fun _=>h⟩
    ·rename_i t3;have qg:=Qd (Classical.not_not.1 t3);split
     ·exact⟨Be ad qg,by unfold aE;dsimp only;omega,fun h=>absurd (show(8:Int)=0 from h) (by decide)⟩
     ·rename_i t4;have kH:=ad.h7;refine ⟨xQ (X7 (Be ad qg) (by omega)),by unfold aE;dsimp only;omega,fun _=>vG (X8 (Jo h)) hn rfl ?_⟩;have aU:=X9 (off:=f.aP) (w:=(cV c n).In.bj) (by omega) (by omega) (by omega);exact⟨dN.1,⟨hf,by simp,(fun y aj=>by cases aj),hf,dN.2.1.2.2.2.2⟩,aU,cm _,dN.2.2.2.2⟩
theorem Yb (g:dQ) (hw:ga g):ga (ld g).1:=by
 have aU:ga ⟨0,[],0,0⟩:=by unfold ga aE;simp
 unfold ld;split
 ·exact aU
 ·rename_i ai;split
  ·rename_i hc;have ai:ev g=0:=by omega
   have hb:=GR ai hc.1;have hd:=hw.1;refine ⟨by unfold aE at *;dsimp only;omega,by have:=hw.2.1;simp only[mJ];omega,fun y aj=>hw.2.2.1 y (List.mem_of_mem_drop aj),hw.2.2.2.1,hw.2.2.2.2⟩
  ·exact hw
theorem Yc (g:dQ) (off:Int) (data:List UInt8) (fin:Bool):aE (iv g off data fin).2:=by
 unfold iv;split
 ·unfold ev;split <;> (unfold aE;dsimp only;omega)
 ·split
  ·unfold aE;dsimp only;omega
  ·split
   ·unfold aE;dsimp only;omega
   ·split
    ·unfold aE;dsimp only;omega
    ·split <;> (unfold aE;dsimp only;omega)
theorem Yd {n:Nat} (ad:c3 c) (h:cK B c) (an:B<=16777216) (hn:n<c.aq.length) (hf:aE f.aP) (hd:f.Data.length<=120):oj (B+120) (rf c n f):=by
 have dN:lz B (cV c n):=h.gK _ (cc hn);have cZ:∀ p ∈ (cV c n).In.aD,p.Data.length<=16777216:=fun p ar=>by have:=wV ar;have:=dN.2.2.2.1;omega
 have qy:=GM (cV c n).In f.aP f.Data f.Fin dN.2.1 hf (by omega) cZ;unfold rf;split
 ·exact⟨ad,by unfold aE;dsimp only;omega,fun _=>h.mono (by omega)⟩
 ·split
  ·exact⟨ad,Yc _ _ _ _,fun _=>h.mono (by omega)⟩
  ·rename_i t1;obtain ⟨dg,db,gq,ka,hj⟩:=GV (cV c n).In f.aP f.Data f.Fin (by omega) cZ (Classical.not_not.1 t1);obtain ⟨aL,aS,bi,cq,e3⟩:=GW dg;have ly:=dN.2.2.2.1;split
   ·exact⟨ad,Qe _ _,fun _=>h.mono (by omega)⟩
   ·rename_i t2;have qg:=Qd (Classical.not_not.1 t2);split
    ·exact⟨Be ad qg,by unfold aE;dsimp only;omega,fun h=>absurd (show(1:Int)=0 from h) (by decide)⟩
    ·rename_i t3;refine ⟨xQ (Be ad qg),by unfold aE;dsimp only;omega,fun _=>vG ((Jo h).mono (by omega)) hn rfl ?_⟩;exact⟨dN.1,Yb _ qy,aL,by dsimp only;omega,dN.2.2.2.2.1,dN.2.2.2.2.2.1,by dsimp only;omega⟩
theorem Ye (aw:bT.hg s) (hn:0<=s.Next/\s.Next<=s.Data.length/\s.Data.length<=600):bT.hg (po s)/\(0<=(po s).Next/\(po s).Next<=(po s).Data.length/\(po s).Data.length<=600):=by
 obtain ⟨c4,du,w3,_⟩:=aw;unfold po;refine ⟨⟨by simp;omega,du,by unfold aE at *;dsimp only;omega,by simp,(fun y aj=>by cases aj),?_,?_⟩,by simp;omega⟩
 ·dsimp only;split <;> simp
 ·dsimp only;split
  ·intro y aj;rw[iX] at aj;subst aj;unfold bT.fB aE;dsimp only;omega
  ·intro y aj;cases aj
theorem Yf {n:Nat} (ad:c3 c) (h:cK B c) (hn:n<c.aq.length) (hi:aE f.Id) (hc:aE f.Code):oj B (p4 c n f):=by
 have dN:lz B (cV c n):=h.gK _ (cc hn);unfold p4;split
 ·exact⟨ad,by unfold aE;dsimp only;omega,fun _=>h⟩
 ·obtain ⟨s1,s2⟩:=Ye dN.2.2.2.2.1 dN.2.2.2.2.2.1;refine ⟨Et (xQ ad),by rcases Eu c.Queue (oF f.Id (cV c n).Out.Next f.Code) with e|e <;> (unfold aE;dsimp only;omega),fun _=>Bd (vG h hn rfl ⟨dN.1,dN.2.1,dN.2.2.1,dN.2.2.2.1,s1,s2,dN.2.2.2.2.2.2⟩) ?_⟩;have ia:=dN.2.2.2.2.1.2.1;unfold oF bT.dx;exact⟨by unfold aE;dsimp only;omega,hi,ia,hc,by simp,(fun y aj=>by cases aj),by simp⟩
theorem Yg (h:(mE s n).2=0):(mE s n).1={ s with Max:=max s.Max n }/\0<=n/\n<=4611686018427387903:=by
 unfold mE at *;by_cases a:lE s≠0
 ·rw[al a] at h;exact absurd h a
 ·rw[ah a] at h ⊢;by_cases b:0<=n/\n<=4611686018427387903
  ·rw[al b];exact⟨rfl,b⟩
  ·rw[ah b] at h;have h:(6:Int)=0:=h;exact absurd h (by decide)
theorem Yh (s:ee) (n:Int):aE (mE s n).2:=by
 unfold mE;split
 ·have:=r6 s;unfold aE;dsimp only;omega
 ·split <;> (unfold aE;dsimp only;omega)
theorem Yi {n:Nat} (ad:c3 c) (h:cK B c) (hn:n<c.aq.length) (hf:aE f.aP):oj B (p7 c n f):=by
 have dN:lz B (cV c n):=h.gK _ (cc hn);unfold p7;split
 ·rename_i t;obtain ⟨g1,g2⟩:=Yg t;refine ⟨xQ ad,by unfold aE;dsimp only;omega,fun _=>vG h hn rfl ?_⟩;rw[g1];refine Jm dN ?_ rfl rfl;obtain ⟨c4,du,w3,e9⟩:=dN.2.2.2.2.1;exact⟨c4,du,by unfold aE at *;dsimp only;omega,e9⟩
 ·exact⟨ad,Yh _ _,fun _=>h⟩
theorem Ev {bd:Nat} {g:aG->Nat->bo->aG×Int} (av:∀ c n,c3 c->cK B c->n<c.aq.length->oj bd (g c n f)) (hb:B<=bd) (ad:c3 c) (h:cK B c):oj bd (iU g c f):=by
 obtain ⟨fF,a2,a3,a4⟩:=q1 (id:=f.Id) ad h;unfold iU;split
 ·split
  ·rename_i U;exact av _ _ fF a2 U
  ·exact⟨fF,by unfold aE;dsimp only;omega,fun _=>a2.mono hb⟩
 ·exact⟨fF,a3,fun _=>a2.mono hb⟩
theorem sX (h:gx f=0):0<=f.aP/\f.aP<=4611686018427387903:=by
 unfold gx at h;split at h
 ·exact absurd h (by decide)
 ·split at h
  ·exact absurd h (by decide)
  ·split at h
   ·exact absurd h (by decide)
   ·rename_i az;have bk:ju (fH (hasB f.Kind) 111) f.aP:=Classical.byContradiction fun q=>az (.inr (.inl q))
    exact⟨bk.1,bk.2.1⟩
theorem NK (h:c3 c) (ag:aE k):c3 (mq c k):=⟨h.op,h.jf,h.id,h.dv,h.mg,h.sp,h.lC,h.a8,h.h7,ag⟩
theorem NL :cK B (mq c k):=⟨by unfold mq;simp,(fun i hi=>by unfold mq at hi;simp at hi),(fun y aj=>by cases aj),by unfold mq;simp,(fun y aj=>by cases aj)⟩
theorem yB (ad:c3 c) (h:cK B c) (an:B<=16777216) (hf:dx f) (hd:f.Data.length<=120) (q4:f.aP<=4611686018427387903):oj (B+120) (gY c f now):=by
 have up:∀ r,oj B r->oj (B+120) r:=fun r hr=>⟨hr.1,hr.2.1,fun e=>(hr.2.2 e).mono (by omega)⟩
 unfold gY;split
 ·exact up _ (X6 ad h)
 ·split
  ·exact Ev (fun c n ad h hn=>Yd ad h an hn hf.2.2.1 hd) (by omega) ad h
  ·split
   ·exact up _ (Ev (fun c n ad h hn=>Ya ad h hn hf.2.2.1) (e4 _) ad h)
   ·split
    ·exact up _ (Ev (fun c n ad h hn=>Yf ad h hn hf.2.1 hf.2.2.2.1) (e4 _) ad h)
    ·split
     ·obtain ⟨g1,g2⟩:=Qf c.eh f.aP;exact⟨⟨ad.op,ad.jf,ad.id,ad.dv,g1,ad.sp,ad.lC,ad.a8,ad.h7,ad.n2⟩,g2,fun _=>cK.mono ⟨h.eg,h.lD,h.gK,h.iK,h.nn⟩ (by omega)⟩
     ·split
      ·exact up _ (Ev (fun c n ad h hn=>Yi ad h hn hf.2.2.1) (e4 _) ad h)
      ·split
       ·refine ⟨?_,by unfold aE;dsimp only;omega,fun _=>?_⟩
        ·dsimp only;split
         ·exact⟨ad.op,ad.jf,by have:=ad.id;unfold ym;dsimp only;omega,ad.dv,ad.mg,ad.sp,ad.lC,ad.a8,ad.h7,ad.n2⟩
         ·exact ad
        ·dsimp only;split
         ·exact cK.mono ⟨h.eg,h.lD,h.gK,h.iK,h.nn⟩ (by omega)
         ·exact h.mono (by omega)
       ·split
        ·refine ⟨Et ad,by rcases Eu c.Queue (tl f.Code) with e|e <;> (unfold aE;dsimp only;omega),fun _=>(Bd h ?_).mono (by omega)⟩;unfold tl bT.dx;exact⟨by unfold aE;dsimp only;omega,by unfold aE;dsimp only;omega,by unfold aE;dsimp only;omega,hf.2.2.2.1,by simp,(fun y aj=>by cases aj),by simp⟩
        ·split
         ·exact⟨NK ad hf.2.2.2.1,by unfold aE;dsimp only;omega,fun _=>NL⟩
         ·exact⟨ad,by unfold aE;dsimp only;omega,fun _=>h.mono (by omega)⟩
end
end Go.Proofs.YtendheafcbickaaGreat
