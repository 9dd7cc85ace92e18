
import Derived.Test.YtendheafcbickaaGreatTZip
import Derived.Test.YtendheafcbickaaGreatTGo
import Derived.Test.YtendheafcbickaaGreatTMg33
import Derived.Test.YtendheafcbickaaGreatTFlB
import Derived.Test.YtendheafcbickaaGreatTMg22
import Derived.Test.YtendheafcbickaaGreatTMg17
set_option linter.unusedVariables false
set_option linter.unusedSimpArgs false
namespace Go.Proofs.YtendheafcbickaaGreat
set_option maxRecDepth 100000
def MG (s:dE):Prop:=0<=s.Next/\s.Next<=s.Data.length/\s.Data.length<=600
theorem U4 {s:dE} {room credit:Int} (hw:bR.hJ s) (he:(jk s room credit).2.2.2=0):bR.hJ (jk s room credit).1/\MG (jk s room credit).1:=by
 unfold jk at *
 rcases su s with⟨af,bu⟩ | ⟨af,ra⟩
 ·rw[if_neg (by omega)] at he ⊢
  by_cases hq:0<=room/\room<=120/\0<=credit
  ·rw[if_neg (fun h=>h hq)] at he ⊢
   obtain ⟨⟨f1,f2,f3,f4,f5⟩,f6,f7,g1,g2,g3⟩:=zn bu hq
   have ml:=fun h:0<iC s room credit=>zN (l:=s.cp) (a:=-2) (r:=⟨jj s room,jj s room+iC s room credit - 1⟩) sN f6
   have hlen:=fun h:0<iC s room credit=>Jr (r:=⟨jj s room,jj s room+iC s room credit - 1⟩) f6 sN (Nat.le_refl s.cp.length)
   have XR:s.cp.length<=1000:=by
    have aT:=oy bu.1.1.1.2.2.2.2.2.1
    have a1:=BK aT ((p1 aT).1 bu.1.1.2) (by omega)
    omega
   generalize sD s (jj s room) (iC s room credit)=fin at *
   generalize iC s room credit=n at *
   generalize jj s room=bJ at *
   unfold vQ
   split
   ·exact⟨hw,f1,f2,f5⟩
   ·refine ⟨⟨hw.1,by unfold aF;dsimp only;omega,by unfold aF;dsimp only;omega,?_,?_,hw.2.2.2.2.2.1,hw.2.2.2.2.2.2⟩,by unfold MG;dsimp only;omega⟩
    ·dsimp only
     split
     ·have:=hlen ca;omega
     ·omega
    ·dsimp only
     split
     ·intro y ai
      have aj:=(ji (ml ca) y ai).1
      unfold b9 at aj
      unfold bR.fz aF;omega
     ·exact hw.2.2.2.2.1
  ·rw[if_pos hq] at he;cases he
 ·rw[if_pos (by omega)] at he;dsimp only at he;omega
theorem U5 {l m:List dV} {op:Int} (aq:m.length=l.length) (hid:∀ i,i<l.length->(m.getD i default).Id=(l.getD i default).Id) (h:∀ i,i<l.length->mJ l i<(l.getD i default).Id/\(l.getD i default).Id<op):∀ i,i<m.length->mJ m i<(m.getD i default).Id/\(m.getD i default).Id<op:=by
 intro i hi
 rw[aq] at hi
 rw[hid i hi]
 have I:=h i hi
 refine ⟨?_,I.2⟩
 have J:=I.1
 unfold mJ at J ⊢
 split
 ·rename_i af;rw[if_pos af] at J;exact J
 ·rename_i af;rw[if_neg af] at J;rw[hid _ (by omega)];exact J
theorem Gh {cr:Int} {B:Nat} {l:List dV} (hu:∀ y ∈ l,pH B y):∀ (n k:Nat) (s:List dV×Int×List bc),n+k=l.length->s.1.length=l.length->(∀ y ∈ s.1,pH B y)->(∀ i,i<l.length->(s.1.getD i default).Id=(l.getD i default).Id) ->
  (∀ y ∈ (jF cr l n k s).1,pH B y)/\(∀ i,i<l.length->((jF cr l n k s).1.getD i default).Id=(l.getD i default).Id)
 | 0,k,s,_,I,J,av=>⟨J,av⟩
 | n+1,k,s,ag,I,J,av=>by
  unfold jF
  split
  ·exact⟨J,av⟩
  ·split
   ·rename_i aj
    obtain ⟨wD,wE,Ap,zj,Aq,CS,DQ⟩:=hu _ (cY (show k<l.length by omega))
    obtain ⟨dD,c7⟩:=U4 Aq aj.1
    refine Gh hu n (k+1) _ (by omega) (by dsimp only;rw[List.length_set];exact I) (fun y ai=>?_) (fun i hi=>?_)
    ·rcases List.mem_or_eq_of_mem_set ai with ai|ai
     ·exact J y ai
     ·subst ai;exact⟨wD,wE,Ap,zj,dD,c7,DQ⟩
    ·dsimp only
     rw[List.getD_eq_getElem?_getD,List.getElem?_set]
     by_cases e:k=i
     ·subst e
      rw[if_pos rfl,if_pos (by omega)];rfl
     ·rw[if_neg e,<- List.getD_eq_getElem?_getD]
      exact av i hi
   ·exact Gh hu n (k+1) s (by omega) I J av
theorem U6 (s:c8) (hw:bR.eF s):bR.eF (jE s).1:=by
 have h:=(DG s (bR.Gi s hw)).1
 unfold jE at *
 split
 ·unfold bR.eF aF sa;simp
 ·rename_i I
  rw[if_neg I] at h
  split
  ·unfold bR.eF aF sa;simp
  ·rename_i J
   rw[if_neg J] at h
   exact⟨h,hw.2⟩
theorem MH {f:bc} (h:dC f) (af:eu f=0):bR.dC f:=by
 have:=U7 af
 obtain ⟨fs,a2,a3,a4,a5,ur,XS⟩:=h
 exact⟨fs,a2,a3,a4,by omega,ur,by omega⟩
theorem U8 (s:c8) (now size:Int) (l:List bc) (hw:bR.eF s) (aq:l.length<=12) (hf:iG l):bR.eF (kC s now size l).1:=by
 have bh:bR.eF ⟨0,[],0,[],[]⟩:=by unfold bR.eF aF;simp
 unfold kC
 rcases lF s with⟨af,aa⟩ | ⟨af,aa⟩
 ·rw[af,if_neg (by omega)]
  split
  ·exact bh
  ·rename_i aK
   split
   ·exact bh
   ·have hh:=aa.1.1
    unfold gN at hh
    unfold pG at aK
    refine ⟨by unfold aF;dsimp only;omega,by dsimp only;rw[List.length_append];simp;omega,fun y ai=>?_,hw.2.2.2⟩
    rcases List.mem_append.1 ai with h|h
    ·exact hw.2.2.1 y h
    ·rw[List.mem_singleton.1 h]
     exact⟨by unfold aF;dsimp only;omega,by unfold aF;dsimp only;omega,by unfold aF;dsimp only;omega,by dsimp only;omega,fun f BL=>MH (hf f BL).1 (hf f BL).2⟩
 ·rw[af,if_pos (by omega)];exact bh
theorem U9 (s:c8) (now size:Int) (l:List bc):aF (kC s now size l).2.1:=by
 unfold kC
 rcases lF s with⟨af,aa⟩ | ⟨af,aa⟩
 ·rw[af,if_neg (by omega)]
  split
  ·unfold aF;dsimp only;omega
  ·split
   ·unfold aF;dsimp only;omega
   ·have hh:=aa.1.1
    unfold gN at hh
    unfold aF;dsimp only;omega
 ·rw[af,if_pos (by omega)];unfold aF;dsimp only;omega
theorem Va (s:c8):aF (jE s).2.1:=by
 unfold jE
 rcases lF s with⟨af,aa⟩ | ⟨af,aa⟩
 ·rw[af,if_neg (by omega)]
  have hh:=aa.1.1
  unfold gN at hh
  split <;> (unfold aF;dsimp only;omega)
 ·rw[af,if_pos (by omega)];unfold aF;dsimp only;omega
structure MI (B:Nat) (r:a6×Int×List bc×Int):Prop where
 j:hl r.1
 l:gj B r.1
 n:aF r.2.1
 f:∀ f ∈ r.2.2.1,dC f
 k:r.2.2.1.length<=12
theorem MJ {B:Nat} {c:a6} {l:List bc} (ah:hl c) (aq:gj B c) (hf:iG l) (kf:l.length<=12) (af:(nA c l).2.2.2=0):MI B (nA c l):=by
 unfold nA at *
 split
 ·exact⟨ah,aq,by unfold aF;dsimp only;omega,(fun f hf=>by cases hf),by simp⟩
 ·rename_i I
  rw[if_neg I] at af
  split
  ·refine ⟨⟨ah.op,ah.sd,ah.id,ah.nC,ah.cr,U6 _ ah.sp,ah.vn,ah.ck,ah.k3,ah.vo⟩,⟨aq.iX,aq.qt,aq.oh,?_,?_⟩,Va _,fun f BL=>(hf f BL).1,kf⟩
   ·dsimp only;split
    ·simp
    ·exact aq.se
   ·dsimp only;split
    ·intro y ai;cases ai
    ·exact aq.tO
  ·rename_i J
   rw[if_neg J] at af
   exact absurd af J
theorem Vb {c:a6} (hw:ej c) (bu:pQ c):iG (lL c)/\(lL c).length<=1:=by
 have kB:hZ c.bf=0:=bu.1.1.1.1.1
 have oI:gN c.bf:=by
  rcases lF c.bf with⟨_,h⟩ | ⟨h,_⟩
  ·exact h.1.1
  ·omega
 unfold gN at oI
 unfold lL
 split
 ·rename_i h
  have:=DI (l:=c.bf.cg) hw.1.2.2.2.2.2.1 oI.2.2.2.2.2.1 h.2 oI.2.2.2.2.2.2.1
  exact⟨fun f hf=>by rw[List.mem_singleton] at hf;exact hf ▸ this,by simp⟩
 ·exact⟨(fun f hf=>by cases hf),by simp⟩
theorem Dn {B:Nat} {c:a6} {now:Int} (ah:hl c) (aq:gj B c) (aB:B<=16777216) (af:(iE c now).2.2.2=0):MI B (iE c now):=by
 have hu:=sL ah aq aB
 have hw:=W.pT c hu
 unfold iE at *
 rcases tZ c with⟨hc,bu⟩ | ⟨hc,bu⟩
 ·rw[if_pos hc] at af ⊢
  split
  ·rename_i hn
   rw[if_pos hn] at af
   have ph:iG c.Queue:=fun f hf=>⟨hw.2.2.2.2.2.2.2.2.2.2.1 f hf,(sS (Q:=fun x=>eu x=0)).1 bu.1.2 f hf⟩
   have kf:=aq.se
   split
   ·rename_i gK
    rw[if_pos gK] at af
    exact MJ ah aq ph kf af
   ·rename_i gK
    rw[if_neg gK] at af
    have n3:=Vb hw bu
    have mf:∀ y,y ∈ c.aO->W.gM y/\0<=y.Id/\y.Id<=4611686018427387903:=fun y ai=>⟨hu.2.2.2.2.2.2.2.2.1 y ai,by
     obtain ⟨i,hi,rfl⟩:=List.getElem_of_mem ai
     have pj:=bu.1.1.2
     have I:=(DH pj i hi)
     have J:=(pj i hi).2.1
     have fY:=bu.1.1.1.2
     unfold iR at fY
     rw[List.getD_eq_getElem?_getD,List.getElem?_eq_getElem hi] at I J
     dsimp only[Option.getD_some] at I J
     omega⟩
    have MK:=ah.cr
    unfold h4 at MK
    have bl:=aq.iX
    obtain ⟨qj,sT,IL,IM,IP⟩:=Am c.Queue (lL c) ph n3.1 (by omega)
    obtain ⟨g1,g2,g3,g4,g5⟩:=wy (cr:=c.fQ.Max) mf c.aO.length 0 (c.aO,c.fQ.cm,(jo c.Queue (lL c)).1) (by omega) rfl (fun y ai=>W.q2 y (mf y ai).1) kU qj kU
    obtain ⟨dD,c7⟩:=Gh (cr:=c.fQ.Max) aq.oh c.aO.length 0 (c.aO,c.fQ.cm,(jo c.Queue (lL c)).1) (by omega) rfl aq.oh (fun i _=>rfl)
    unfold Ak mg at *
    split
    ·refine ⟨⟨ah.op,ah.sd,ah.id,ah.nC,?_,U8 _ _ _ _ ah.sp g5 g4,IR _ _ hw.2.1,ah.ck,ah.k3,ah.vo⟩,⟨?_,U5 g1 c7 aq.qt,dD,?_,fun y ai=>?_⟩,U9 _ _ _ _,fun f hf=>(g4 f hf).1,g5⟩
     ·unfold h4;exact⟨g3.1,g3.2,MK.2.2⟩
     ·unfold pg oH;dsimp only;omega
     ·unfold pg;dsimp only;omega
     ·exact MH (sT y ai).1 (sT y ai).2
    ·rename_i hh
     rw[if_neg hh] at af
     exact MJ ah aq n3.1 (by omega) af
  ·rename_i hn
   rw[if_neg hn] at af;cases af
 ·rw[if_neg (by omega)] at af;cases af
theorem Vc (s:c8) (now cO:Int) (hw:bR.eF s):bR.eF (hF s now cO).1 /\ ∀ y ∈ (hF s now cO).2.1,bR.jg y:=by
 have bh:bR.eF ⟨0,[],0,[],[]⟩:=by unfold bR.eF aF;simp
 unfold hF
 rcases lF s with⟨af,aa⟩ | ⟨af,aa⟩
 ·rw[af,if_neg (by omega)]
  split
  ·exact⟨bh,fun y ai=>by cases ai⟩
  ·have OE:=List.length_filter_le (fun p=>!late now cO p) s.az
   have aq:=hw.2.1
   exact⟨⟨hw.1,by dsimp only;omega,fun y ai=>hw.2.2.1 y ((List.mem_filter.1 ai).1),hw.2.2.2⟩,fun y ai=>hw.2.2.1 y ((List.mem_filter.1 ai).1)⟩
 ·rw[af,if_pos (by omega)];exact⟨bh,fun y ai=>by cases ai⟩
theorem RC {B:Nat} {c:a6} {now:Int} (ah:hl c) (aq:gj B c) (af:(ku c now).2=0):hl (ku c now).1/\gj B (ku c now).1:=by
 unfold ku at *
 split
 ·rename_i I
  rw[if_pos I] at af
  split
  ·rename_i J
   rw[if_pos J] at af
   split
   ·exact⟨ah,aq⟩
   ·split
    ·have he:aF 16:=by unfold aF;omega
     have:=ML (c:=c) he
     exact⟨Vd (MM ah he),⟨this.iX,this.qt,fun y ai=>(by cases ai),by unfold lf;simp,fun y ai=>(by cases ai)⟩⟩
    ·obtain ⟨s1,s2⟩:=Vc c.bf now 8 ah.sp
     obtain ⟨fs,a2⟩:=MN (now:=now) (hF c.bf now 8).2.1 (Ve ah s1) (Vf (s:=(hF c.bf now 8).1) aq) s2
     split
     ·exact⟨fs,a2⟩
     ·exact⟨MM fs (y1 _ _),(ML (y1 _ _)).mono (Nat.zero_le _)⟩
  ·rename_i J;rw[if_neg J] at af;cases af
 ·rename_i I;rw[if_neg I] at af;cases af
end Go.Proofs.YtendheafcbickaaGreat
