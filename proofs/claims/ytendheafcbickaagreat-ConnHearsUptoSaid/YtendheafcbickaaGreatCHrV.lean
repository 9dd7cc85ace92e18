
import Derived.Test.YtendheafcbickaaGreatCMg39
set_option linter.unusedVariables false
set_option linter.unusedSimpArgs false
namespace Go.Proofs.YtendheafcbickaaGreat
variable {k n:Nat} {l:List cS}
set_option maxRecDepth 100000
theorem N1 (c:Nat) (x:List V):∀ (A:List (List V)) (vs:Nat->V),dB c vs (A++[x])=dB c vs A++[x.set c (vs A.length)]
 | [],vs=>rfl
 | y :: r,vs=>by
  show y.set c (vs 0) :: dB c (fun i=>vs (i+1)) (r++[x])=y.set c (vs 0) :: (dB c (fun i=>vs (i+1)) r++[x.set c (vs (y :: r).length)]);rw[N1 c x r];rfl
theorem ll (k:Nat) (l:List cS):(cM k l).length=l.length:=by unfold cM;rw[kw,bY]
theorem vb (h:n<l.length):bb (cM k l) n=(aV dE (l.getD n default)).set 5 (.own (k+n)):=by
 unfold cM;rw[tH 5 _ _ n (by rw[bY];exact h),gV (aV dE) h]
theorem N2 {y:cS} (h:n<l.length):(cM k l).set n ((aV dE y).set 5 (.own (k+n)))=cM k (l.set n y):=by
 apply List.ext_getElem
 ·rw[e1,ll,ll,e1]
 ·intro i J aa;have aI:∀ (A:List (List V)) (dC:i<A.length),A[i]=bb A i:=fun A dC=>by unfold bb;rw[bZ,eB dC];rfl
  rw[aI _ J,aI _ aa];rw[e1,ll] at J;have a7:=vb (k:=k) (n:=i) (l:=l.set n y) (by rw[e1];exact J);rw[a7,xq _ _ _ _ (by rw[ll];exact J)];by_cases e:n=i
  ·subst e;rw[al rfl,bZ,nU,al rfl,al h];rfl
  ·rw[ah e,vb J,bZ,bZ,nU,ah e]
end Go.Proofs.YtendheafcbickaaGreat
