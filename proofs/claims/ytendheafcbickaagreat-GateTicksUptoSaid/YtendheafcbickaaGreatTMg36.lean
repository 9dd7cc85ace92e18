/-
  SEVERAL TEXTS IN ONE: each with its own comment.
-/
import Derived.Test.YtendheafcbickaaGreatTZip
import Derived.Test.YtendheafcbickaaGreatTGo
import Derived.Test.YtendheafcbickaaGreatTMg31
import Derived.Test.YtendheafcbickaaGreatTMg35
import Derived.Test.YtendheafcbickaaGreatTMg22
import Derived.Test.YtendheafcbickaaGreatTMg15
import Derived.Test.YtendheafcbickaaGreatTMg11
set_option linter.unusedVariables false
set_option linter.unusedSimpArgs false
set_option maxHeartbeats 16000000
namespace Go.Proofs.YtendheafcbickaaGreat
section
set_option maxRecDepth 100000
def rA (l:List aQ):bc:=⟨2,0,0,false,0,l.reverse,[]⟩
def lL (c:a6):List bc:=if c.ke=true/\0<c.bf.cg.length then[rA c.bf.cg] else[]
def jo:List bc->List bc->List bc×List bc
 | [],out=>(out,[])
 | f :: q,out=>if out.length<11/\eP out+((ib f).length:Int)<=352 then jo q (out++[f]) else(out,f :: q)
def jU (out:List bc):Int:=min 120 (376 - eP out)
def kD (f:bc) (id:Int):bc:=⟨f.Kind,id,f.bI,f.Fin,f.Code,f.bi,f.Data⟩
noncomputable def jF (cr:Int) (l:List dV):Nat->Nat->List dV×Int×List bc->List dV×Int×List bc
 | 0,_,s=>s
 | n+1,k,s=>
  if s.2.2.length=12\/jU s.2.2<=0 then s
  else if (jk (l.getD k default).Out (jU s.2.2) (cr - s.2.1)).2.2.2=0/\(jk (l.getD k default).Out (jU s.2.2) (cr - s.2.1)).2.2.1=true then
   jF cr l n (k+1) (s.1.set k { l.getD k default with Out:=(jk (l.getD k default).Out (jU s.2.2) (cr - s.2.1)).1 },s.2.1+((jk (l.getD k default).Out (jU s.2.2) (cr - s.2.1)).1.Next - (l.getD k default).Out.Next),s.2.2++[kD (jk (l.getD k default).Out (jU s.2.2) (cr - s.2.1)).2.1 (l.getD k default).Id])
  else jF cr l n (k+1) s
def iG (l:List bc):Prop:=∀ f ∈ l,dC f/\eu f=0
theorem wh {l:List bc} {f:bc} (h:iG l) (I:dC f) (J:eu f=0):iG (l++[f]):=fun x U=>by
 rcases List.mem_append.1 U with U|U
 ·exact h x U
 ·rw[List.mem_singleton] at U;exact U ▸ ⟨I,J⟩
theorem DI {l:List aQ} (hw:∀ y,y ∈ l->fz y) (fr:l.length<=6) (af:0<l.length) (hr:gH l=0):dC (rA l)/\eu (rA l)=0:=by
 unfold rA
 constructor
 ·unfold dC aF
  exact⟨by dsimp only;omega,by dsimp only;omega,by dsimp only;omega,by dsimp only;omega,by dsimp only;rw[List.length_reverse];omega,fun y ai=>hw y (List.mem_reverse.1 ai),by simp⟩
 ·unfold eu
  dsimp only
  rw[List.reverse_reverse,List.length_reverse,if_neg (by decide),if_neg (by simp;omega)]
  rw[if_neg (by unfold hA;rw[show c6 (hasB 2) 105=false by decide,show c6 (hasB 2) 111=false by decide];simp),if_neg (by rw[show c6 (hasB 2) 100=false by decide];simp)]
  exact if_neg (by
   rintro (⟨_,h⟩ | ⟨_,h⟩|h|h)
   ·simp at h
   ·cases h
   ·exact h ⟨fun _=>af,fun _=>rfl⟩
   ·exact h hr)
theorem D9 {s:dE} {room credit id:Int} (hw:bR.hJ s) (hid:0<=id/\id<=4611686018427387903) (he:(jk s room credit).2.2.2=0) (hb:(jk s room credit).2.2.1=true) :
  (0<=(jk s room credit).1.Next - s.Next/\(jk s room credit).1.Next - s.Next<=credit)/\hJ (jk s room credit).1/\dC (kD (jk s room credit).2.1 id)/\eu (kD (jk s room credit).2.1 id)=0:=by
 unfold jk at *
 rcases su s with⟨af,bu⟩ | ⟨af,ra⟩
 ·rw[if_neg (by omega)] at he hb ⊢
  by_cases hq:0<=room/\room<=120/\0<=credit
  ·rw[if_neg (fun h=>h hq)] at he hb ⊢
   obtain ⟨⟨f1,f2,f3,f4,f5⟩,f6,f7,g1,g2,g3⟩:=zn bu hq
   have hn:iC s room credit<=room:=by unfold iC;split <;> omega
   have uc:max s.Next (jj s room+iC s room credit) - s.Next<=credit:=by
    unfold jj iC
    split
    ·rename_i h;have:=f7 h.1;omega
    ·omega
   have ml:=fun h:0<iC s room credit=>zN (l:=s.cp) (a:=-2) (r:=⟨jj s room,jj s room+iC s room credit - 1⟩) sN f6
   have hlen:=fun h:0<iC s room credit=>Jr (r:=⟨jj s room,jj s room+iC s room credit - 1⟩) f6 sN (Nat.le_refl s.cp.length)
   generalize sD s (jj s room) (iC s room credit)=fin at *
   generalize iC s room credit=n at *
   generalize jj s room=bJ at *
   unfold vQ at *
   by_cases bh:n=0/\fin=false
   ·rw[if_pos bh] at hb;cases hb
   ·rw[if_neg bh] at he hb ⊢
    dsimp only
    have zo:((s.Data.take (bJ+n).toNat).drop bJ.toNat).length=n.toNat:=by rw[List.length_drop,List.length_take];omega
    have ef:=hw.2.2.2.1
    have eS:=hw.2.2.2.2.2.1
    refine ⟨⟨by omega,uc⟩,⟨by dsimp only;omega,by unfold aF;dsimp only;omega,by unfold aF;dsimp only;omega,?_,?_,by dsimp only;omega,hw.2.2.2.2.2.2⟩,?_,?_⟩
    ·dsimp only
     split
     ·have:=hlen ca;omega
     ·omega
    ·dsimp only
     split
     ·intro y ai
      have aj:=(ji (ml ca) y ai).1
      unfold b9 at aj
      unfold fz aF;omega
     ·exact hw.2.2.2.2.1
    ·unfold kD dC aF
     exact⟨by dsimp only;omega,by dsimp only;omega,by dsimp only;omega,by dsimp only;omega,by simp,(fun y ai=>by cases ai),by dsimp only;rw[zo];omega⟩
    ·unfold kD eu
     dsimp only
     rw[zo,if_neg (by decide),if_neg (by simp;omega)]
     rw[if_neg (by unfold hA;rw[show c6 (hasB 8) 105=true by decide,show c6 (hasB 8) 111=true by decide];simp;omega),if_neg (by simp;omega)]
     exact if_neg (by
      rintro (⟨h,_⟩ | ⟨h,_⟩|h|h)
      ·rw[show c6 (hasB 8) 100=true by decide] at h;cases h
      ·rw[show c6 (hasB 8) 102=true by decide] at h;cases h
      ·exact h ⟨fun e=>by omega,fun e=>by simp at e⟩
      ·exact h (by simp[gH,ed]))
  ·rw[if_pos hq] at hb;cases hb
 ·rw[if_pos (by omega)] at hb;cases hb
theorem Am:∀ (q out:List bc),iG q->iG out->out.length<=11->iG (jo q out).1/\iG (jo q out).2/\(jo q out).1.length<=11/\(jo q out).2.length<=q.length/\out.length<=(jo q out).1.length
 | [],out,_,aa,aq=>⟨aa,(fun f hf=>by cases hf),aq,Nat.le_refl _,Nat.le_refl _⟩
 | f :: q,out,hq,aa,aq=>by
  unfold jo
  split
  ·rename_i h
   have hf:=hq f List.mem_cons_self
   have:=Am q (out++[f]) (fun g aj=>hq g (List.mem_cons_of_mem _ aj)) (wh aa hf.1 hf.2) (by rw[List.length_append,List.length_singleton];omega)
   obtain ⟨I,J,av,bl,dm⟩:=this
   rw[List.length_append,List.length_singleton] at dm
   exact⟨I,J,av,by rw[List.length_cons];omega,by omega⟩
  ·exact⟨aa,hq,aq,Nat.le_refl _,Nat.le_refl _⟩
theorem wy {cr:Int} {l:List dV} (hu:∀ y,y ∈ l->W.gM y/\0<=y.Id/\y.Id<=4611686018427387903):∀ (n k:Nat) (s:List dV×Int×List bc),n+k=l.length->s.1.length=l.length->(∀ y,y ∈ s.1->gM y)->(0<=s.2.1/\s.2.1<=cr)->iG s.2.2->s.2.2.length<=12 ->
  (jF cr l n k s).1.length=l.length/\(∀ y,y ∈ (jF cr l n k s).1->gM y)/\(0<=(jF cr l n k s).2.1/\(jF cr l n k s).2.1<=cr)/\iG (jF cr l n k s).2.2/\(jF cr l n k s).2.2.length<=12
 | 0,k,s,_,I,J,av,bl,dm=>⟨I,J,av,bl,dm⟩
 | n+1,k,s,ag,I,J,av,bl,dm=>by
  unfold jF
  split
  ·exact⟨I,J,av,bl,dm⟩
  ·rename_i jq
   split
   ·rename_i aj
    obtain ⟨iV,hid⟩:=hu _ (cY (show k<l.length by omega))
    obtain ⟨⟨d1,d2⟩,d3,d4,d5⟩:=D9 (s:=(l.getD k default).Out) (room:=jU s.2.2) (credit:=cr - s.2.1) (id:=(l.getD k default).Id) iV.2.2.2 hid aj.1 aj.2
    have l1:=W.q2 _ iV
    refine wy hu n (k+1) _ (by omega) (by dsimp only;rw[List.length_set];exact I) (fun y ai=>?_) kU (wh bl d4 d5) (by dsimp only;rw[List.length_append,List.length_singleton];omega)
    rcases List.mem_or_eq_of_mem_set ai with ai|ai
    ·exact J y ai
    ·subst ai;exact⟨l1.1,l1.2.1,l1.2.2.1,d3⟩
   ·exact wy hu n (k+1) s (by omega) I J av bl dm
theorem IR (p:fM) (n:Int) (hw:hE p):hE (o9 p n).1:=by
 unfold o9
 split
 ·unfold hE aF;dsimp only;omega
 ·rename_i h
  obtain ⟨aa,aq⟩:=ua (p:=p) (l:=[n]) (by omega)
  have bj:=aq n (by simp)
  unfold lD at bj
  unfold lE at aa
  split
  ·exact hw
  ·unfold hE aF;dsimp only;omega
noncomputable def nA (c:a6) (l:List bc):a6×Int×List bc×Int:=
 if l.length=0 then(c,0,[],0)
 else if (jE c.bf).2.2=0 then({ c with bf:=(jE c.bf).1,ke:=false,Queue:=if c.iz=true then[] else c.Queue },(jE c.bf).2.1,l,0)
 else(default,0,[],(jE c.bf).2.2)
noncomputable def mg (c:a6):List dV×Int×List bc:=jF c.fQ.Max c.aO c.aO.length 0 (c.aO,c.fQ.cm,(jo c.Queue (lL c)).1)
def oH (c:a6) (l:List dV) (u:Int):a6:={ c with aO:=l,fQ:=⟨c.fQ.Max,u⟩ }
def pg (c:a6) (q:List bc) (p:fM) (s:c8):a6:={ c with Queue:=q,e8:=p,bf:=s,ke:=false }
noncomputable def Ak (c:a6) (now:Int):a6×Int×List bc×Int:=
 if (lL c).length<(mg c).2.2.length/\(o9 c.e8 (eP (mg c).2.2)).2.1=true/\(kC c.bf now (eP (mg c).2.2) (mg c).2.2).2.2=0 then
  (pg (oH c (mg c).1 (mg c).2.1) (jo c.Queue (lL c)).2 (o9 c.e8 (eP (mg c).2.2)).1 (kC c.bf now (eP (mg c).2.2) (mg c).2.2).1,(kC c.bf now (eP (mg c).2.2) (mg c).2.2).2.1,(mg c).2.2,0)
 else nA c (lL c)
noncomputable def iE (c:a6) (now:Int):a6×Int×List bc×Int:=
 if l0 c=0 then(if 0<=now/\now<=1099511627776 then(if c.iz=true then nA c c.Queue else Ak c now) else(default,0,[],6)) else(default,0,[],9)
def kV (r:a6×Int×List bc×Int):V:=.b0 [.agg (e2 r.1),.lit (.int .i64 r.2.1),.ro (r.2.2.1.map aW),.lit (.int .i64 r.2.2.2)]
end
section
set_option maxRecDepth 100000
attribute [local irreducible] cq a8 bw GStep Fn cu bk cU
theorem getD_set_ne {l:List dV} {k j:Nat} {x:dV} (h:k≠j):(l.set k x).getD j default=l.getD j default:=by
 rw[List.getD_eq_getElem?_getD,List.getD_eq_getElem?_getD,List.getElem?_set_ne h]
theorem Qo (c:a6) (q out:List bc) (hu:∀ y,y ∈ c.aO->W.gM y/\0<=y.Id/\y.Id<=4611686018427387903) (aq:c.aO.length<=1000000) (hc:h4 c.fQ) (aa:iG out) (Ay:out.length<=12)
  (cN:List dV×Int×List bc) (bn:jF c.fQ.Max c.aO c.aO.length 0 (c.aO,c.fQ.cm,out)=cN) :
  cU Tryz.prog 209 [.ptr 0 0 0 0,.own 2] [(0,some (.box 116 (gp c (.own 1) (.ro (q.map aW))))),(1,some (.row 134 16 (c.aO.map cv))),(2,some (.row 111 7 (out.map aW)))] 3
   (.own 3) [(0,some (.box 116 (gp (oH c cN.1 cN.2.1) (.own 1) (.ro (q.map aW))))),(1,some (.row 134 16 (cN.1.map cv))),(3,some (.row 111 7 (cN.2.2.map aW)))] 4:=by
 unfold h4 at hc
 obtain ⟨aA,space,bp,bU,credit,ids,cH,opened,bE,b3,queue,last,cL,dw,code⟩:=c
 obtain ⟨s4,Rk⟩:=credit
 unfold gp oH
 dsimp only at *
 refine gG ae Tryz.func209 rfl ae (by rfl) ?_
 (repeat' first|(refine ab ?_;((repeat' first|exact True.intro|refine R.mk ?_ ?_);all_goals intros))|fail "")
 refine b2 (fun x:Nat×List dV×Int×List bc=>⟨[(0,.ptr 0 0 0 0),(1,.own 3),(18,.lit (.int .i64 bE.length)),(19,.lit (.int .i64 x.1))],[(0,some (.box 116 [.lit (.bool aA),.lit (.int .i64 space.Next),.ro (space.az.map bY),.lit (.int .i64 space.dn),.ro (space.cg.map aD),.ro (space.b7.map encI),.lit (.int .i64 bp.cK),.lit (.int .i64 bp.eE),.lit (.int .i64 bp.dW),.lit (.int .i64 bp.Since),.lit (.int .i64 bU.Max),.lit (.int .i64 bU.cm),.lit (.int .i64 s4),.lit (.int .i64 x.2.2.1),.lit (.int .i64 ids),.lit (.int .i64 cH),.lit (.int .i64 opened),.own 1,.lit (.bool b3),.ro (q.map aW),.lit (.int .i64 last),.lit (.int .i64 cL),.lit (.bool dw),.lit (.int .i64 code)])),(1,some (.row 134 16 (x.2.1.map cv))),(3,some (.row 111 7 (x.2.2.2.map aW)))],4,Tryz.f209.ntmps⟩)
  (fun x=>x.1<=bE.length/\jF s4 bE (bE.length - x.1) x.1 x.2=cN/\x.2.1.length=bE.length/\(∀ j,x.1<=j->x.2.1.getD j default=bE.getD j default)/\(0<=x.2.2.1/\x.2.2.1<=s4)/\iG x.2.2.2/\x.2.2.2.length<=12) (fun x=>bE.length - x.1) (0,bE,Rk,out) ⟨Nat.zero_le _,bn,rfl,fun _ _=>rfl,by dsimp only;omega,aa,Ay⟩ (by first|exact pO 2|skip) ?_
 clear bn aa Ay
 rintro ⟨k,ck,used,o⟩ ⟨ag,hm,fW,eV,mm,bu,Ea⟩
 dsimp only at *
 by_cases aJ:k<bE.length
 ·obtain ⟨n,hn⟩:∃ n,bE.length - k=n+1:=⟨bE.length - k - 1,by omega⟩
  rw[hn] at hm
  unfold jF at hm
  dsimp only at hm
  have ap:=zu o (fun f hf=>(bu f hf).1) (fun f hf=>(bu f hf).2) (by omega)
  have bh:=uo (fun f hf=>(bu f hf).2)
  by_cases jq:o.length=12\/jU o<=0
  ·rw[if_pos jq] at hm
   subst hm
   unfold jU at jq
   generalize eP o=z at *
   (repeat' first|(refine l6 (ap) (h:=?_))|(refine l7 (ap) (h:=?_))|(refine ab ?_;((repeat' first|exact True.intro|refine R.mk ?_ ?_);all_goals intros))|fail "")
   all_goals first
    | (exact fg)
    | (exfalso;omega)
    | skip
  ·rw[if_neg jq] at hm
   obtain ⟨iV,wS,wT⟩:=hu _ (cY aJ)
   have wU:=eV k (Nat.le_refl k)
   rw[<- wU] at hm iV wS wT
   have aw:=OM (ck.getD k default).Out (jU o) (s4 - used) (bR.vP _ iV.2.2.2) (by unfold jU aF;omega) (by unfold aF;omega)
   have lh:=fun I J=>D9 (s:=(ck.getD k default).Out) (room:=jU o) (credit:=s4 - used) (id:=(ck.getD k default).Id) iV.2.2.2 ⟨wS,wT⟩ I J
   have eT:k<(ck.map cv).length:=by rw[List.length_map];omega
   have ga:bH (ck.map cv) k=cv (ck.getD k default):=by rw[je cv (by omega)]
   have uc:=iV.2.2.2.2.1
   unfold aF at uc
   have Rl:jU o=min 120 (376 - eP o):=rfl
   generalize jU o=wV at *
   have ei:min 120 (400 - eP o - 24)=wV:=by omega
   generalize eP o=z at *
   generalize jk (ck.getD k default).Out wV (s4 - used)=P at *
   obtain ⟨S,F,ok,e⟩:=P
   unfold uh at aw
   dsimp only at *
   by_cases hT:e=0/\ok=true
   ·rw[if_pos hT] at hm
    obtain ⟨he,hb⟩:=hT
    subst he hb
    obtain ⟨⟨d1,d2⟩,Eb,Ec,Ed⟩:=lh rfl rfl
    have hf:=Po ⟨s4,used⟩ (S.Next - (ck.getD k default).Out.Next) (by unfold h4;dsimp only;omega) d1 kU
    have qq:(ck.map cv).set k (setAt 8 (fe S) (bH (ck.map cv) k))=(ck.set k { ck.getD k default with Out:=S }).map cv:=by
     rw[ga,List.map_set];rfl
    have oJ:=Eb.2.1
    unfold aF at oJ
    (repeat' first|(refine l6 (ap) (h:=?_))|(refine l7 (ap) (h:=?_))|(refine ar (aw) (h:=?_))|(refine au (aw) (h:=?_))|(refine ar (hf) (h:=?_))|(refine au (hf) (h:=?_))|refine bB (hq:=nB rfl rfl rfl (im rfl eT rfl ga) rfl) (h:=?_)|refine bB (hq:=mn rfl rfl rfl rfl (im rfl eT rfl ga) (Nat.le_of_ble_eq_true rfl)) (h:=?_)|refine dJ (hq:=fun N=>nB rfl rfl rfl (im rfl eT rfl ga) rfl) (h:=?_)|refine dJ (hq:=fun N=>mn rfl rfl rfl rfl (im rfl eT rfl ga) (Nat.le_of_ble_eq_true rfl)) (h:=?_)|(refine mG (r:=(ck.set k { ck.getD k default with Out:=S }).map cv) ?_ ?_ (h:=?_);(exact hQ);(focus ((exact qq))))|(refine mH (r:=(ck.set k { ck.getD k default with Out:=S }).map cv) ?_ ?_ (h:=?_);(exact hQ);(focus ((exact qq))))|(refine cx (r:=(o++[kD F (ck.getD k default).Id]).map aW) ?_ ?_ ?_ ?_ (h:=?_);(exact hU);(exact al);(exact an);(exact ao))|(refine cD (r:=(o++[kD F (ck.getD k default).Id]).map aW) ?_ ?_ ?_ ?_ (h:=?_);(exact hU);(exact al);(exact an);(exact ao))|(refine cE (r:=(o++[kD F (ck.getD k default).Id]).map aW) ?_ ?_ ?_ ?_ (h:=?_);(exact hU);(exact al);(exact an);(exact ao))|(refine cF (r:=(o++[kD F (ck.getD k default).Id]).map aW) ?_ ?_ ?_ ?_ (h:=?_);(exact hU);(exact al);(exact an);(exact ao))|(refine hB 8 ?_;((repeat' first|exact True.intro|refine R.mk ?_ ?_);all_goals intros))|fail "")
    rw[ei]
    refine iv ?_
    refine pN [] ?_
    (repeat' first|(refine l6 (ap) (h:=?_))|(refine l7 (ap) (h:=?_))|(refine ar (aw) (h:=?_))|(refine au (aw) (h:=?_))|(refine ar (hf) (h:=?_))|(refine au (hf) (h:=?_))|refine bB (hq:=nB rfl rfl rfl (im rfl eT rfl ga) rfl) (h:=?_)|refine bB (hq:=mn rfl rfl rfl rfl (im rfl eT rfl ga) (Nat.le_of_ble_eq_true rfl)) (h:=?_)|refine dJ (hq:=fun N=>nB rfl rfl rfl (im rfl eT rfl ga) rfl) (h:=?_)|refine dJ (hq:=fun N=>mn rfl rfl rfl rfl (im rfl eT rfl ga) (Nat.le_of_ble_eq_true rfl)) (h:=?_)|(refine mG (r:=(ck.set k { ck.getD k default with Out:=S }).map cv) ?_ ?_ (h:=?_);(exact hQ);(focus ((exact qq))))|(refine mH (r:=(ck.set k { ck.getD k default with Out:=S }).map cv) ?_ ?_ (h:=?_);(exact hQ);(focus ((exact qq))))|(refine cx (r:=(o++[kD F (ck.getD k default).Id]).map aW) ?_ ?_ ?_ ?_ (h:=?_);(exact hU);(exact al);(exact an);(exact ao))|(refine cD (r:=(o++[kD F (ck.getD k default).Id]).map aW) ?_ ?_ ?_ ?_ (h:=?_);(exact hU);(exact al);(exact an);(exact ao))|(refine cE (r:=(o++[kD F (ck.getD k default).Id]).map aW) ?_ ?_ ?_ ?_ (h:=?_);(exact hU);(exact al);(exact an);(exact ao))|(refine cF (r:=(o++[kD F (ck.getD k default).Id]).map aW) ?_ ?_ ?_ ?_ (h:=?_);(exact hU);(exact al);(exact an);(exact ao))|(refine fc ?_;((repeat' first|exact True.intro|refine R.mk ?_ ?_);all_goals intros))|refine bB (h:=?_)|refine bB (hq:=eo rfl rfl rfl ew ey rfl rfl rfl rfl) (h:=?_)|refine da (h:=?_)|refine dJ (h:=?_)|refine ep (h:=?_)|refine ez (h:=?_)|refine eA (h:=?_)|refine eB (h:=?_)|refine eC (h:=?_)|refine eD (h:=?_)|(refine dS rfl ?_ (h:=?_);(exact bP))|(refine dT rfl ?_ (h:=?_);(exact bP))|fail "")
    all_goals first
     | (refine ⟨(k+1,ck.set k { ck.getD k default with Out:=S },used+(S.Next - (ck.getD k default).Out.Next),o++[kD F (ck.getD k default).Id]),?_,?_,?_⟩;rotate_left 2;(exact ax);(exact bV);(focus (exact⟨aJ,by(rw[show bE.length - (k+1)=n by omega];exact hm),by(rw[List.length_set];exact fW),fun j ah=>by(rw[getD_set_ne (by omega)];exact eV j (by omega)),by(dsimp only;omega),wh bu Ec Ed,by(rw[List.length_append,List.length_singleton];omega)⟩)))
     | (exfalso;omega)
     | skip
   ·rw[if_neg hT] at hm
    cases ok
    all_goals
     (repeat' first|(refine l6 (ap) (h:=?_))|(refine l7 (ap) (h:=?_))|(refine ar (aw) (h:=?_))|(refine au (aw) (h:=?_))|refine bB (hq:=nB rfl rfl rfl (im rfl eT rfl ga) rfl) (h:=?_)|refine bB (hq:=mn rfl rfl rfl rfl (im rfl eT rfl ga) (Nat.le_of_ble_eq_true rfl)) (h:=?_)|refine dJ (hq:=fun N=>nB rfl rfl rfl (im rfl eT rfl ga) rfl) (h:=?_)|refine dJ (hq:=fun N=>mn rfl rfl rfl rfl (im rfl eT rfl ga) (Nat.le_of_ble_eq_true rfl)) (h:=?_)|(refine hB 8 ?_;((repeat' first|exact True.intro|refine R.mk ?_ ?_);all_goals intros))|fail "")
     rw[ei]
     refine iv ?_
     refine pN [] ?_
     (repeat' first|(refine l6 (ap) (h:=?_))|(refine l7 (ap) (h:=?_))|(refine ar (aw) (h:=?_))|(refine au (aw) (h:=?_))|refine bB (hq:=nB rfl rfl rfl (im rfl eT rfl ga) rfl) (h:=?_)|refine bB (hq:=mn rfl rfl rfl rfl (im rfl eT rfl ga) (Nat.le_of_ble_eq_true rfl)) (h:=?_)|refine dJ (hq:=fun N=>nB rfl rfl rfl (im rfl eT rfl ga) rfl) (h:=?_)|refine dJ (hq:=fun N=>mn rfl rfl rfl rfl (im rfl eT rfl ga) (Nat.le_of_ble_eq_true rfl)) (h:=?_)|(refine fc ?_;((repeat' first|exact True.intro|refine R.mk ?_ ?_);all_goals intros))|refine bB (h:=?_)|refine bB (hq:=eo rfl rfl rfl ew ey rfl rfl rfl rfl) (h:=?_)|refine da (h:=?_)|refine dJ (h:=?_)|refine ep (h:=?_)|refine ez (h:=?_)|refine eA (h:=?_)|refine eB (h:=?_)|refine eC (h:=?_)|refine eD (h:=?_)|(refine dS rfl ?_ (h:=?_);(exact bP))|(refine dT rfl ?_ (h:=?_);(exact bP))|fail "")
     all_goals first
      | (refine ⟨(k+1,ck,used,o),?_,?_,?_⟩;rotate_left 2;(exact ax);(exact bV);(focus (exact⟨aJ,by(rw[show bE.length - (k+1)=n by omega];exact hm),fW,fun j ah=>eV j (by omega),mm,bu,Ea⟩)))
      | (exfalso;omega)
      | (exfalso;exact hT ⟨by omega,rfl⟩)
      | skip
 ·have ct:k=bE.length:=by omega
  subst ct
  rw[Nat.sub_self] at hm
  unfold jF at hm
  subst hm
  (repeat' first|(refine ab ?_;((repeat' first|exact True.intro|refine R.mk ?_ ?_);all_goals intros))|fail "")
  all_goals first
   | (exact fg)
   | skip
end
section
set_option maxRecDepth 100000
attribute [local irreducible] cq a8 bw GStep Fn cu bk
noncomputable def wv (s:c8):List aQ×Int:=if hZ s≠0 then([],hZ s) else(s.cg.reverse,0)
theorem Iz {l:List aQ} {j:Nat} (af:0<j) (h:j<=l.length):(l.drop (j - 1)).reverse=(l.drop j).reverse++[l.getD (j - 1) default]:=by
 rw[drop_cons (by omega),List.reverse_cons,Nat.sub_add_cancel af]
theorem Qm (s:c8) (hw:eF s):Fn Tryz.prog 207 [.agg (gC s)] (.b0 [.ro ((wv s).1.map aD),.lit (.int .i64 (wv s).2)]):=by
 have I:=vB s hw
 unfold wv
 rcases lF s with⟨af,aa⟩ | ⟨af,aa⟩
 ·rw[af] at I ⊢
  rw[if_neg (by omega)]
  have aq:s.cg.length<=6:=aa.1.1.2.2.2.2.2.1
  refine aU ae Tryz.func207 rfl ae ?_
  (repeat' first|(refine ar (I) (h:=?_))|(refine au (I) (h:=?_))|(refine ab ?_;((repeat' first|exact True.intro|refine R.mk ?_ ?_);all_goals intros))|fail "")
  refine b2 (fun j:Nat=>⟨[(1,.ptr 0 0 0 0),(6,.lit (.int .i64 ((j:Int) - 1))),(5,.own 1)],[(0,some (.box 43 (gC s))),(1,some (.row 146 2 ((s.cg.drop j).reverse.map aD)))],2,Tryz.f207.ntmps⟩)
   (fun j=>j<=s.cg.length) (fun j=>j) s.cg.length (Nat.le_refl _) ((ic (n:=1) (t:=5) 146 2 rfl rfl rfl).trans ?_) ?_
  ·rw[List.drop_length];exact du
  intro j ah
  by_cases me:0<j
  ·have hd:(s.cg.drop j).length<=6:=by rw[List.length_drop];omega
   (repeat' first|(refine cx (r:=((s.cg.drop (j - 1)).reverse).map aD) ?_ ?_ ?_ ?_ (h:=?_);(exact Ac);(exact al);(exact an);(exact ao))|(refine cD (r:=((s.cg.drop (j - 1)).reverse).map aD) ?_ ?_ ?_ ?_ (h:=?_);(exact Ac);(exact al);(exact an);(exact ao))|(refine cE (r:=((s.cg.drop (j - 1)).reverse).map aD) ?_ ?_ ?_ ?_ (h:=?_);(exact Ac);(exact al);(exact an);(exact ao))|(refine cF (r:=((s.cg.drop (j - 1)).reverse).map aD) ?_ ?_ ?_ ?_ (h:=?_);(exact Ac);(exact al);(exact an);(exact ao))|(refine cx (r:=((s.cg.drop (j - 1)).reverse).map aD) ?_ ?_ ?_ ?_ (h:=?_);(focus (rw[Iz me ah,List.map_append];rfl));(focus (exact CD rfl));(exact CE);(exact CF))|(refine ab ?_;((repeat' first|exact True.intro|refine R.mk ?_ ?_);all_goals intros))|fail "")
   all_goals (refine ⟨j - 1,?_,?_,?_⟩;rotate_left 2;(exact ax);(exact bN);(exact bN))
  ·have me:j=0:=by omega
   subst me
   (repeat' first|(refine ab ?_;((repeat' first|exact True.intro|refine R.mk ?_ ?_);all_goals intros))|fail "")
   all_goals exact bt (hr:=rfl)
 ·rw[af] at I ⊢
  rw[if_pos (by omega)]
  refine aU ae Tryz.func207 rfl ae ?_
  (repeat' first|(refine ar (I) (h:=?_))|(refine au (I) (h:=?_))|(refine ab ?_;((repeat' first|exact True.intro|refine R.mk ?_ ?_);all_goals intros))|fail "")
  all_goals (exact bD)
theorem Rm (l:List aQ) (aq:l.length * 16<=140737488351232):Fn Tryz.prog 219 [.ro (l.map aD)] (.ro (l.reverse.map aD)):=by
 refine aU ae Tryz.func219 rfl ae ?_
 (repeat' first|(refine ab ?_;((repeat' first|exact True.intro|refine R.mk ?_ ?_);all_goals intros))|fail "")
 refine b2 (fun k:Nat=>⟨[(6,.ro (l.map aD)),(7,.lit (.int .i64 l.length)),(8,.lit (.int .i64 k)),(3,.own 0)],[(0,some (.row 146 2 ((l.take k).reverse.map aD)))],1,Tryz.f219.ntmps⟩)
  (fun k=>k<=l.length) (fun k=>l.length - k) 0 (Nat.zero_le _) ((ic (n:=0) (t:=3) 146 2 rfl rfl rfl).trans du) ?_
 intro k ag
 by_cases aJ:k<l.length
 ·have e:(l.take (k+1)).reverse=[l.getD k default]++(l.take k).reverse:=by rw[hy aJ,List.reverse_append];rfl
  have qV:(l.take k).length=k:=by rw[List.length_take];omega
  (repeat' first|refine Js (fl:=[aD (l.getD k default)]) (h:=?_)|(refine cx (r:=((l.take (k+1)).reverse).map aD) ?_ ?_ ?_ ?_ (h:=?_);(focus (rw[e,List.map_append];rfl));(focus (exact Is (fun _=>rfl)));(exact CE);(exact CF))|(refine fc ?_;((repeat' first|exact True.intro|refine R.mk ?_ ?_);all_goals intros))|refine bB (h:=?_)|refine bB (hq:=eo rfl rfl rfl ew ey rfl rfl rfl rfl) (h:=?_)|refine da (h:=?_)|refine dJ (h:=?_)|refine ep (h:=?_)|refine ez (h:=?_)|refine eA (h:=?_)|refine eB (h:=?_)|refine eC (h:=?_)|refine eD (h:=?_)|(refine dS rfl ?_ (h:=?_);(exact bP))|(refine dT rfl ?_ (h:=?_);(exact bP))|fail "")
  all_goals (refine ⟨k+1,?_,?_,?_⟩;rotate_left 2;(exact ax);(exact bN);(exact gI))
 ·(repeat' first|(refine ab ?_;((repeat' first|exact True.intro|refine R.mk ?_ ?_);all_goals intros))|fail "")
  all_goals (refine bt (hr:=?_);rw[List.take_of_length_le (by omega)])
end
end Go.Proofs.YtendheafcbickaaGreat
