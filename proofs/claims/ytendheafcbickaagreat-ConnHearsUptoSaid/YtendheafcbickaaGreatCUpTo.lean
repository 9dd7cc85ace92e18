
import Derived.Test.YtendheafcbickaaGreatCGo
import Derived.Test.YtendheafcbickaaGreatCMg09
import Derived.Test.YtendheafcbickaaGreatProg
set_option linter.unusedVariables false
set_option linter.unusedSimpArgs false
namespace Go.Proofs.YtendheafcbickaaGreat
set_option maxRecDepth 100000
attribute [local irreducible] cE a6 bu GStep Fn cg bf
theorem hW (a b:Int):Fn Tryz.prog 55 [I a,I b] (ab (decide (0<=a/\a<=b))):=by
 refine aH Tryz.func55 ?_;(try refine ay ?_;and_intros <;> intros)
 all_goals refine bX (hr:=?_)
 all_goals first
  | rw[decide_eq_true (by omega)]
  | rw[decide_eq_false (by omega)]
end Go.Proofs.YtendheafcbickaaGreat
