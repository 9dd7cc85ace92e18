/-
  SEVERAL TEXTS IN ONE: each with its own comment.
-/
import Derived.Test.YtendheafcbickaaGreatHAbsB
import Derived.Maps.RangeRun

set_option linter.unusedVariables false
set_option linter.unusedSimpArgs false
set_option linter.unusedVariables false
namespace Go.Proofs.YtendheafcbickaaGreat
open Go.RowKit
section
variable {P:Program} {n0:Nat}
theorem less_row {st:St} (e s:Nat) (h0:Nat.blt 0 s=true) (hn0:Nat.ble n0 st.next=true) {F:Nat→Prop} {base:Nat→Prop} {w0 w:World} {ρ:Nat→Option Value} {a:Act} (hH:HRel F base ρ st.heap st.next w0 w) (hE:ERel ρ (Stab F ρ st.heap) w st.nt st.env a) :
    ∃ ρ',HRel F base ρ' ((st.next,some (.row e s [])) :: st.heap) (st.next+1) w0 w∧ERel ρ' (Stab F ρ' ((st.next,some (.row e s [])) :: st.heap)) w st.nt st.env a∧ρ' st.next=some (.slice none 0 0) ∧ ∀ id,id≠st.next→ρ' id=ρ id:=by
  have hnn:ρ st.next=none:=by
    cases h:ρ st.next with
    | none=>rfl
    | some x=>exact absurd (hH.sup _ _ h).1 (Nat.lt_irrefl _)
  have hext:∀ id x,ρ id=some x→upd ρ st.next (.slice none 0 0) id=some x:=fun id x h=>by rw [upd_ne _ _ (fun e=>by rw [e,hnn] at h;cases h)];exact h
  obtain ⟨q1,q2,q3⟩:=hH.step (ρ':=upd ρ st.next (.slice none 0 0)) (heap':=(st.next,some (.row e s [])) :: st.heap) (next':=st.next+1) (w':=w) st.next none
    ⟨rfl,rfl,rfl,Nat.le_refl _,fun _ _ _=>rfl⟩ (fun k hk=>by cases hk) hext
    (fun id x h=>by
      by_cases e:id=st.next
      · rw [e,upd_same] at h;injection h with h;subst h;exact ⟨by omega,rfl⟩
      · rw [upd_ne _ _ e] at h;have:=hH.sup _ _ h;exact ⟨by omega,this.2⟩)
    (fun j B hne hB=>by
      rw [getH_new,if_neg (Ne.symm hne)] at hB
      obtain ⟨u,hu⟩:=hH.some_of hB
      exact ⟨hB,u,hu,fun _ _ _ e=>by cases e⟩)
    (fun B u b hB hoB hu hb=>by
      rw [upd_same] at hu;injection hu with hu;subst hu
      simp [blockOf] at hb)
    (fun B hB hS hsame=>by
      rw [getH_new,if_pos rfl] at hB;injection hB with hB;subst hB
      exact ⟨Nat.le_of_ble_eq_true h0,_,[],upd_same _ _ _,⟨World.ownsRow_nil w 0 e s,fun b hb=>by cases hb⟩,fun i hi=>by simp at hi,fun i j hi=>by simp at hi⟩)
  exact ⟨_,q1,hE.mono q2 q3 hext,upd_same _ _ _,fun id h=>upd_ne _ _ h⟩
end
end Go.Proofs.YtendheafcbickaaGreat


set_option linter.unusedVariables false
set_option linter.unusedSimpArgs false
set_option linter.unusedVariables false
namespace Go.Proofs.YtendheafcbickaaGreat
open Go.RowKit Go.ChangeMaps
section
variable {P:Program} {o:Oper} {n0:Nat} {st:St} {G:List Nat}
def GStepS (P:Program) (n0:Nat) (o:Oper) (st:St) (S:St→Prop):Prop:=
  ∀ F base w0 ρ a w,HRel F base ρ st.heap st.next w0 w→ERel ρ (Stab F ρ st.heap) w st.nt st.env a→o.wp P a w (fun a' w'=>∃ st',S st' ∧ Next n0 F base w0 ρ w st' a' w') (fun _ _ _=>False)
section
variable {ops:List Oper} {rest:List Oper} {env:List (Nat×V)} {heap:List (Nat×Option Blk)} {next nt:Nat} {Q:St→Prop}
end
end
end Go.Proofs.YtendheafcbickaaGreat
