/-
  SEVERAL TEXTS IN ONE: each with its own comment.
-/
import Derived.Test.YtendheafcbickaaGreatTZip
import Derived.Test.YtendheafcbickaaGreatTGo
import Derived.Test.YtendheafcbickaaGreatTMg39
import Derived.Test.YtendheafcbickaaGreatTCnFr
import Derived.Test.YtendheafcbickaaGreatTFlC
import Derived.Test.YtendheafcbickaaGreatTTkD
import Derived.Test.YtendheafcbickaaGreatTMg22
import Derived.Test.YtendheafcbickaaGreatTMg17
import Derived.Test.YtendheafcbickaaGreatTMg27
import Derived.Test.YtendheafcbickaaGreatTMg15
import Derived.Test.YtendheafcbickaaGreatTMg03
set_option linter.unusedVariables false
set_option linter.unusedSimpArgs false
namespace Go.Proofs.YtendheafcbickaaGreat
section
set_option maxRecDepth 100000
attribute [local irreducible] cq a8 bw GStep Fn cu bk cU
theorem PX (k:Int) (up:Bool):Fn Tryz.prog 80 [.lit (.int .u64 k),.lit (.bool up)] (.lit (.int .u64 (n1 k up))):=by
 have I:=fun x=>oo x
 unfold n1
 cases up
 ·rw[if_neg (by decide)]
  refine aU ae Tryz.func80 rfl ae ?_
  (repeat' first|(refine ar (I _) (h:=?_))|(refine au (I _) (h:=?_))|(refine ab ?_;((repeat' first|exact True.intro|refine R.mk ?_ ?_);all_goals intros))|fail "")
  all_goals first
   | (exact bD)
   | skip
 ·rw[if_pos rfl]
  refine aU ae Tryz.func80 rfl ae ?_
  (repeat' first|(refine ar (I _) (h:=?_))|(refine au (I _) (h:=?_))|(refine ab ?_;((repeat' first|exact True.intro|refine R.mk ?_ ?_);all_goals intros))|fail "")
  all_goals first
   | (exact bD)
   | skip
theorem P2 (k:Int) (up:Bool):Fn Tryz.prog 87 [.lit (.int .u64 k),.lit (.bool up)] (.lit (.int .u64 (n1 k up))):=by
 have I:=fun x=>oq x
 unfold n1
 cases up
 ·rw[if_neg (by decide)]
  refine aU ae Tryz.func87 rfl ae ?_
  (repeat' first|(refine ar (I _) (h:=?_))|(refine au (I _) (h:=?_))|(refine ab ?_;((repeat' first|exact True.intro|refine R.mk ?_ ?_);all_goals intros))|fail "")
  all_goals first
   | (exact bD)
   | skip
 ·rw[if_pos rfl]
  refine aU ae Tryz.func87 rfl ae ?_
  (repeat' first|(refine ar (I _) (h:=?_))|(refine au (I _) (h:=?_))|(refine ab ?_;((repeat' first|exact True.intro|refine R.mk ?_ ?_);all_goals intros))|fail "")
  all_goals first
   | (exact bD)
   | skip
def wa (fu:Int):List V:=[.lit (.int .i64 2),.lit (.int .i64 fu),.lit (.int .i64 0),.lit (.slice none 0 0),.lit (.int .i64 0),.lit (.int .i64 0)]
theorem JH (fu:Int):cZ (.agg (wa fu)) (.agg (k7 (ny fu))):=
 .agg (.cons (.refl _) (.cons (.refl _) (.cons (.refl _) (.cons .nil (.cons (.refl _) (.cons (.refl _) .nil))))))
theorem PZ (key fu n dK:Int) (l:List bc) (Eg:aF fu) (aq:∀ f ∈ l,dC f) (fW:l.length<=1048576):Fn Tryz.prog 102 [.lit (.int .u64 key),.agg (wa fu),.lit (.int .i64 n),.lit (.int .i64 dK),.ro (l.map aW)] (rj (nw key (ny fu) n dK l)):=
 Ji (Pc key (ny fu) n dK l (I7 Eg) aq fW) (.cons (.refl _) (.cons (JH fu) (.cons (.refl _) (.cons (.refl _) (.cons (.refl _) .nil)))))
theorem P3 (key fu n dK:Int) (l:List bc) (Eg:aF fu) (hn:aF n) (bj:aF dK) (aq:∀ f ∈ l,dC f) (fW:l.length<=1048576):Fn Tryz.prog 109 [.lit (.int .u64 key),.agg (wa fu),.lit (.int .i64 n),.lit (.int .i64 dK),.ro (l.map aW)] (rj (nw key (ny fu) n dK l)):=
 Ji (QD key (ny fu) n dK l (I7 Eg) hn bj aq fW) (.cons (.refl _) (.cons (JH fu) (.cons (.refl _) (.cons (.refl _) (.cons (.refl _) .nil)))))
def Xv (r:h2×List (List UInt8)):V:=.b0 [.agg (vL r.1),.ro (r.2.map QL)]
end
section
open Go.RowKit
section
variable {P:Program} {n0:Nat}
theorem Rw {id T j0:Nat} {cs fk:List V} {st:ba} (e s:Nat) (af:Nat.blt 0 s=true) (hn0:Nat.ble n0 st.next=true) (c9:Nat.beq id st.next=false) (hh:bd st.heap id=some (.box T cs)) (me:j0<cs.length) (Rx:bx cs j0 = .lit (.slice none 0 0)) (iW:cs.set j0 (.own st.next)=fk) :
  cu P n0 st { env:=st.env,heap:=(id,some (.box T fk)) :: (st.next,some (.row e s [])) :: st.heap,next:=st.next+1,ad:=st.ad }:=fun F base w0 ρ a w ak ay=>by
 subst iW
 obtain ⟨bm,aT,a1,bz,cW⟩:=Ry e s af hn0 ak ay
 have Rz:id≠st.next:=fun e=>by rw[e] at c9;simp at c9
 have s5:bd ((st.next,some (.row e s [])) :: st.heap) id=some (.box T cs):=by
  rw[ea,if_neg (Ne.symm Rz)];exact hh
 obtain ⟨dD,c7,fb⟩:=aT.step (bm:=bm) (cS:=(id,some (.box T (cs.set j0 (.own st.next)))) :: (st.next,some (.row e s [])) :: st.heap) (next':=st.next+1) (aE:=w) id none
  ⟨rfl,rfl,rfl,Nat.le_refl _,fun _ _ _=>rfl⟩ (fun k ag=>by cases ag) (fun _ _ h=>h) (fun j u h=>aT.sup j u h)
  (fun j B ah aB=>by
   rw[ea,if_neg (Ne.symm ah)] at aB
   obtain ⟨u,hu⟩:=aT.oM aB
   exact⟨aB,u,hu,fun _ _ _ e=>by cases e⟩)
  (fun B u b aB wW hu hb=>by
   refine .inr ⟨fun ap=>ap.2 id _ _ s5 rfl hu hb,fun j bT ev ah cJ eJ ec dl=>?_⟩
   rw[ea,if_neg (Ne.symm ah)] at cJ
   exact ah (aT.inj j id bT _ ev _ b cJ s5 eJ rfl ec hu dl hb))
  (fun B aB hS eV=>by
   rw[ea,if_pos rfl] at aB;injection aB with aB;subst aB
   obtain ⟨b,us,aH,aN,bS,eK,iI⟩:=aT.dB _ _ s5
   refine ⟨b,us,aH,aN,by first|exact bS|(rw[List.length_set];exact bS),by first|exact eK|(rw[List.length_set];exact eK),fun j ah=>?_⟩
   rw[List.length_set] at ah
   have dm:=iI j ah
   rw[RA _ _ _ _ ah]
   refine ⟨?_,dm.2⟩
   by_cases JI:j=j0
   ·subst JI
    rw[if_pos rfl]
    rw[Rx] at dm
    have:=ff dm.1
    rw[this]
    exact .own bz
   ·rw[if_neg JI]
    exact dm.1.mono (dX.refl _ _) hS (fun _ _ h=>h))
 exact⟨bm,dD,a1.mono c7 fb (fun _ _ h=>h),fun j ah=>cW j (by have:=Nat.le_of_ble_eq_true hn0;omega)⟩
end
end
end Go.Proofs.YtendheafcbickaaGreat
