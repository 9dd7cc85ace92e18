
import Derived.Test.YtendheafcbickaaGreatAbsB
import Derived.Maps.RangeRun
set_option linter.unusedVariables false
set_option linter.unusedSimpArgs false
set_option linter.unusedVariables false
namespace Go.Proofs.YtendheafcbickaaGreat
open Go.RowKit Go.ChangeMaps
section
variable {P:Program} {o:Oper} {n0:Nat} {st:St} {G:List Nat}
def GStepS (P:Program) (n0:Nat) (o:Oper) (st:St) (S:St→Prop):Prop:=
  ∀ F base w0 ρ a w,HRel F base ρ st.heap st.next w0 w→ERel ρ (Stab F ρ st.heap) w st.nt st.env a→o.wp P a w (fun a' w'=>∃ st',S st' ∧ Next n0 F base w0 ρ w st' a' w') (fun _ _ _=>False)
section
variable {ops:List Oper} {rest:List Oper} {env:List (Nat×V)} {heap:List (Nat×Option Blk)} {next nt:Nat} {Q:St→Prop}
end
end
end Go.Proofs.YtendheafcbickaaGreat
