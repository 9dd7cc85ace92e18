
import Derived.Test.YtendheafcbickaaGreatCMg23
set_option linter.unusedVariables false
set_option linter.unusedSimpArgs false
namespace Go.Proofs.YtendheafcbickaaGreat
set_option maxRecDepth 100000
attribute [local irreducible] cE a6 bu GStep Fn cg bf cA
theorem L6 {c:aG} {f:bo} (h:c.Queue.length<=12):(nl c f).1.length<=12:=by
 unfold nl;split
 ·exact h
 ·split
  ·exact h
  ·exact Dz _ _ h
theorem L4 {l:List cS} {k:Nat} {s:ee} (h:mh l) (ag:k<l.length) (aw:bT.hg s):mh (l.set k { l.getD k default with Out:=s }):=fun y aj=>by
 rcases vo aj with aj|aj
 ·exact h y aj
 ·subst aj;have:=h _ (cc ag);exact⟨this.1,this.2.1,this.2.2.1,aw⟩
end Go.Proofs.YtendheafcbickaaGreat
