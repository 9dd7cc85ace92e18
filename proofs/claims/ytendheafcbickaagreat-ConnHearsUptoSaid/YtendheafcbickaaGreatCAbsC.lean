
import Derived.Test.YtendheafcbickaaGreatCAbsB
set_option linter.unusedVariables false
set_option linter.unusedSimpArgs false
namespace Go.Proofs.YtendheafcbickaaGreat
open Go.RowKit
section
variable {P:Program} {n0:Nat}
theorem Ld {st:aW} (e s:Nat) (ai:Nat.blt 0 s=true) (hn0:Nat.ble n0 st.next=true) {F:Nat->Prop} {base:Nat->Prop} {w0 w:World} {ρ:Nat->Option Value} {a:Act} (hH:eA F base ρ st.heap st.next w0 w) (ax:e0 ρ (bs F ρ st.heap) w st.af st.env a) :
  ∃ bl,eA F base bl ((st.next,some (.row e s [])) :: st.heap) (st.next+1) w0 w/\e0 bl (bs F bl ((st.next,some (.row e s [])) :: st.heap)) w st.af st.env a/\bl st.next=some (.slice none 0 0) /\ ∀ id,id≠st.next->bl id=ρ id:=by
 have fY:ρ st.next=none:=by
  cases h:ρ st.next with
  | none=>rfl
  | some x=>exact absurd (hH.sup _ _ h).1 (Nat.lt_irrefl _)
 have kG:∀ id x,ρ id=some x->jZ ρ st.next (.slice none 0 0) id=some x:=fun id x h=>by rw[jd _ _ (fun e=>by rw[e,fY] at h;cases h)];exact h
 obtain ⟨aL,aS,bi⟩:=hH.step (bl:=jZ ρ st.next (.slice none 0 0)) (cB:=(st.next,some (.row e s [])) :: st.heap) (next':=st.next+1) (aF:=w) st.next none
  ⟨rfl,rfl,rfl,e4 _,fun _ _ _=>rfl⟩ (fun k ag=>by cases ag) kG
  (fun id x h=>by
   by_cases e:id=st.next
   ·rw[e,gO] at h;injection h with h;subst h;exact⟨by omega,rfl⟩
   ·rw[jd _ _ e] at h;have:=hH.sup _ _ h;exact⟨by omega,this.2⟩)
  (fun j B ct an=>by
   rw[cl,ah (Ne.symm ct)] at an;obtain ⟨u,hu⟩:=hH.nd an
   exact⟨an,u,hu,fun _ _ _ e=>by cases e⟩)
  (fun B u b an ur hu hb=>by
   rw[gO] at hu;injection hu with hu;subst hu
   simp[dU] at hb)
  (fun B an hS dc=>by
   rw[cl,al rfl] at an;injection an with an;subst an
   exact⟨bM ai,_,[],gO _ _ _,⟨World.ownsRow_nil w 0 e s,fun b hb=>by cases hb⟩,fun i hi=>by simp at hi,fun i j hi=>by simp at hi⟩)
 exact⟨_,aL,ax.mono aS bi kG,gO _ _ _,fun id h=>jd _ _ h⟩
theorem Le {id T:Nat} {st:aW} (e s:Nat) (ai:Nat.blt 0 s=true) (hn0:Nat.ble n0 st.next=true) (ct:Nat.beq id st.next=false) (hh:aM st.heap id=some (.box T [aX])) :
  cg P n0 st { env:=st.env,heap:=(id,some (.box T [.own st.next])) :: (st.next,some (.row e s [])) :: st.heap,next:=st.next+1,af:=st.af }:=fun F base w0 ρ a w hH ax=>by
 obtain ⟨bl,aL,aS,bi,cq⟩:=Ld e s ai hn0 hH ax;have Fp:id≠st.next:=fun e=>by rw[e] at ct;simp at ct
 have p1:aM ((st.next,some (.row e s [])) :: st.heap) id=some (.box T [aX]):=by
  rw[cl,ah (Ne.symm Fp)];exact hh
 obtain ⟨dg,db,gq⟩:=aL.step (bl:=bl) (cB:=(id,some (.box T [.own st.next])) :: (st.next,some (.row e s [])) :: st.heap) (next':=st.next+1) (aF:=w) id none
  ⟨rfl,rfl,rfl,e4 _,fun _ _ _=>rfl⟩ (fun k ag=>by cases ag) (fun _ _ h=>h) (fun j u h=>aL.sup j u h)
  (fun j B ad an=>by
   rw[cl,ah (Ne.symm ad)] at an;obtain ⟨u,hu⟩:=aL.nd an
   exact⟨an,u,hu,fun _ _ _ e=>by cases e⟩)
  (fun B u b an ur hu hb=>by
   refine .inr ⟨fun aw=>aw.2 id _ _ p1 rfl hu hb,fun j bd dD ad b0 dK c2 cG=>?_⟩;rw[cl,ah (Ne.symm ad)] at b0
   exact ad (aL.inj j id bd _ dD _ b b0 p1 dK rfl c2 hu cG hb))
  (fun B an hS dc=>by
   rw[cl,al rfl] at an;injection an with an;subst an;obtain ⟨b,us,aI,a7,cC,eI,fZ⟩:=aL.cJ _ _ p1;refine ⟨b,us,aI,a7,cC,eI,fun j ad=>?_⟩;have sT:j=0:=by simp only[eb,fg] at ad;omega
   subst sT;have dG:=fZ 0 (by simp);refine ⟨?_,dG.2⟩;have:=fO dG.1;rw[this]
   exact .own bi)
 exact⟨bl,dg,aS.mono db gq (fun _ _ h=>h),fun j ad=>cq j (by have:=bM hn0;omega)⟩
end
end Go.Proofs.YtendheafcbickaaGreat
