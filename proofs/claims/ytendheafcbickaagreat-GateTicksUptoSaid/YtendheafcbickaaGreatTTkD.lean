
import Derived.Test.YtendheafcbickaaGreatTZip
import Derived.Test.YtendheafcbickaaGreatTGo
import Derived.Test.YtendheafcbickaaGreatTTkC
set_option linter.unusedVariables false
set_option linter.unusedSimpArgs false
set_option maxHeartbeats 16000000
namespace Go.Proofs.YtendheafcbickaaGreat
set_option maxRecDepth 100000
attribute [local irreducible] cq a8 bw GStep Fn cu bk cU
theorem Qd (c:a6) (f:bc) (fj:j9 c.aO) (aq:c.aO.length<=1000000) (hq:c.Queue.length<=12) (qf:dC f) :
  Fn Tryz.prog 235 [.agg (e2 c),.agg (aW f)] (.b0 [.agg (e2 (l3 c (jz c f).1 (jz c f).2.1)),.lit (.int .i64 (jz c f).2.2)]):=by
 have fB:=Qe c f.Id aq
 have hle:=q1 c.aO f.Id
 have h5:=fun g=>Qf c g hq
 generalize bn:jz c f=cN
 obtain ⟨IA,wj,wk⟩:=cN
 unfold jz l2 sq l4 at bn
 obtain ⟨aA,space,bp,bU,credit,ids,cH,opened,bE,b3,queue,last,cL,dw,code⟩:=c
 obtain ⟨fh,gr,oF,fin,kY,kZ,kl⟩:=f
 unfold so at bn
 unfold l3
 dsimp only at *
 by_cases sh:fh=8
 ·subst sh
  rw[if_pos rfl] at bn
  by_cases U:eb bE gr<bE.length
  ·rw[if_pos U] at bn fB
   have iV:=fj _ (cY U)
   have oG:=O7 (bE.getD (eb bE gr) default).Out oF kl.length fin iV.2.2.2 qf.2.2.1 (by have:=qf.2.2.2.2.2.2;dsimp only at this;unfold aF;omega)
   have ij:=fun S=>IB ⟨aA,space,bp,bU,credit,ids,cH,opened,bE,b3,queue,last,cL,dw,code⟩ (eb bE gr) { bE.getD (eb bE gr) default with Out:=S } aq U
   clear fj iV qf h5
   generalize eb bE gr=n at *
   generalize ld (bE.getD n default).Out oF kl.length fin=wm at *
   obtain ⟨S,le⟩:=wm
   have ij:=ij S
   unfold uj at oG
   unfold nx at ij
   dsimp only at *
   by_cases rv:le=0
   ·subst rv
    rw[if_pos rfl] at bn
    cases bn
    refine aU ae Tryz.func235 rfl ae ?_
    (repeat' first|(refine ar (fB) (h:=?_))|(refine au (fB) (h:=?_))|(refine ar (oG) (h:=?_))|(refine au (oG) (h:=?_))|(refine ar (ij) (h:=?_))|(refine au (ij) (h:=?_))|(refine ab ?_;((repeat' first|exact True.intro|refine R.mk ?_ ?_);all_goals intros))|fail "")
    all_goals first
     | (exact bD)
     | (exfalso;omega)
     | (exfalso;dsimp only at *;omega)
     | (exfalso;simp only[IntKind.wrap_i64] at *;omega)
     | skip
   ·rw[if_neg rv] at bn
    cases bn
    refine aU ae Tryz.func235 rfl ae ?_
    (repeat' first|(refine ar (fB) (h:=?_))|(refine au (fB) (h:=?_))|(refine ar (oG) (h:=?_))|(refine au (oG) (h:=?_))|(refine ar (ij) (h:=?_))|(refine au (ij) (h:=?_))|(refine ab ?_;((repeat' first|exact True.intro|refine R.mk ?_ ?_);all_goals intros))|fail "")
    all_goals first
     | (exact bD)
     | (exfalso;omega)
     | (exfalso;dsimp only at *;omega)
     | (exfalso;simp only[IntKind.wrap_i64] at *;omega)
     | skip
  ·rw[if_neg U] at bn fB
   cases bn
   refine aU ae Tryz.func235 rfl ae ?_
   (repeat' first|(refine ar (fB) (h:=?_))|(refine au (fB) (h:=?_))|(refine ab ?_;((repeat' first|exact True.intro|refine R.mk ?_ ?_);all_goals intros))|fail "")
   all_goals first
    | (exact bD)
    | (exfalso;omega)
    | (exfalso;dsimp only at *;omega)
    | (exfalso;simp only[IntKind.wrap_i64] at *;omega)
    | skip
 ·rw[if_neg sh] at bn
  by_cases qg:ry fh
  ·rw[if_pos qg] at bn
   unfold ry at qg
   obtain ⟨Ah,wo⟩:∃ Ah:Int,Ah=(if eb bE gr<bE.length then(eb bE gr:Int) else -1):=⟨_,rfl⟩
   rw[<- wo] at fB
   refine aU ae Tryz.func235 rfl ae ?_
   (repeat' first|(refine ar (fB) (h:=?_))|(refine au (fB) (h:=?_))|(refine hB 2 ?_;((repeat' first|exact True.intro|refine R.mk ?_ ?_);all_goals intros))|fail "")
   refine fG (fun _:Unit=>⟨[(2,.ptr 0 0 0 0),(3,.ptr 1 0 0 0),(4,.ptr 2 0 0 0),(6,.lit (.int .i64 Ah))],[(0,some (.box 51 [.lit (.bool aA),.lit (.int .i64 space.Next),.ro (space.az.map bY),.lit (.int .i64 space.dn),.ro (space.cg.map aD),.ro (space.b7.map encI),.lit (.int .i64 bp.cK),.lit (.int .i64 bp.eE),.lit (.int .i64 bp.dW),.lit (.int .i64 bp.Since),.lit (.int .i64 bU.Max),.lit (.int .i64 bU.cm),.lit (.int .i64 credit.Max),.lit (.int .i64 credit.cm),.lit (.int .i64 ids),.lit (.int .i64 cH),.lit (.int .i64 opened),.ro (bE.map cv),.lit (.bool b3),.ro (queue.map aW),.lit (.int .i64 last),.lit (.int .i64 cL),.lit (.bool dw),.lit (.int .i64 code)])),(1,some (.box 111 [.lit (.int .i64 fh),.lit (.int .i64 gr),.lit (.int .i64 oF),.lit (.bool fin),.lit (.int .i64 kY),.ro (kZ.map aD),.ro (kl.map aC)])),(2,some (.box 51 [.lit (.bool false),.lit (.int .i64 0),.lit (.slice none 0 0),.lit (.int .i64 0),.lit (.slice none 0 0),.lit (.slice none 0 0),.lit (.int .i64 0),.lit (.int .i64 0),.lit (.int .i64 0),.lit (.int .i64 0),.lit (.int .i64 0),.lit (.int .i64 0),.lit (.int .i64 0),.lit (.int .i64 0),.lit (.int .i64 0),.lit (.int .i64 0),.lit (.int .i64 0),.lit (.slice none 0 0),.lit (.bool false),.lit (.slice none 0 0),.lit (.int .i64 0),.lit (.int .i64 0),.lit (.bool false),.lit (.int .i64 0)]))],3,Tryz.f235.ntmps⟩) (fun _=>True) ?_ ?_
   ·(repeat' first|(refine ab ?_;((repeat' first|exact True.intro|refine R.mk ?_ ?_);all_goals intros))|fail "")
    all_goals first
     | (refine ⟨(),?_,?_⟩;rotate_left 1;(exact ax);(exact jt))
     | (exfalso;omega)
     | (exfalso;dsimp only at *;omega)
     | (exfalso;simp only[IntKind.wrap_i64] at *;omega)
     | skip
   rintro ⟨⟩ -
   clear fB
   (repeat' first|(refine ab ?_;((repeat' first|exact True.intro|refine R.mk ?_ ?_);all_goals intros))|fail "")
   refine b2 (fun k:Nat=>⟨[(2,.ptr 0 0 0 0),(3,.ptr 1 0 0 0),(4,.ptr 2 0 0 0),(6,.lit (.int .i64 Ah)),(61,.ro (queue.map aW)),(62,.lit (.int .i64 queue.length)),(63,.lit (.int .i64 k))],[(0,some (.box 51 [.lit (.bool aA),.lit (.int .i64 space.Next),.ro (space.az.map bY),.lit (.int .i64 space.dn),.ro (space.cg.map aD),.ro (space.b7.map encI),.lit (.int .i64 bp.cK),.lit (.int .i64 bp.eE),.lit (.int .i64 bp.dW),.lit (.int .i64 bp.Since),.lit (.int .i64 bU.Max),.lit (.int .i64 bU.cm),.lit (.int .i64 credit.Max),.lit (.int .i64 credit.cm),.lit (.int .i64 ids),.lit (.int .i64 cH),.lit (.int .i64 opened),.ro (bE.map cv),.lit (.bool b3),.ro (queue.map aW),.lit (.int .i64 last),.lit (.int .i64 cL),.lit (.bool dw),.lit (.int .i64 code)])),(1,some (.box 111 [.lit (.int .i64 fh),.lit (.int .i64 gr),.lit (.int .i64 oF),.lit (.bool fin),.lit (.int .i64 kY),.ro (kZ.map aD),.ro (kl.map aC)])),(2,some (.box 51 [.lit (.bool false),.lit (.int .i64 0),.lit (.slice none 0 0),.lit (.int .i64 0),.lit (.slice none 0 0),.lit (.slice none 0 0),.lit (.int .i64 0),.lit (.int .i64 0),.lit (.int .i64 0),.lit (.int .i64 0),.lit (.int .i64 0),.lit (.int .i64 0),.lit (.int .i64 0),.lit (.int .i64 0),.lit (.int .i64 0),.lit (.int .i64 0),.lit (.int .i64 0),.lit (.slice none 0 0),.lit (.bool false),.lit (.slice none 0 0),.lit (.int .i64 0),.lit (.int .i64 0),.lit (.bool false),.lit (.int .i64 0)]))],3,Tryz.f235.ntmps⟩)
    (fun k=>k<=queue.length /\ ∀ i,i<k -> ¬ ((queue.getD i default).Kind=fh/\(queue.getD i default).Id=gr)) (fun k=>queue.length - k) 0 ⟨Nat.zero_le _,fun i h=>by omega⟩ gf ?_
   rintro k ⟨ag,ft⟩
   by_cases aJ:k<queue.length
   ·by_cases he:(queue.getD k default).Kind=fh/\(queue.getD k default).Id=gr
    ·rw[if_pos (nh ⟨k,aJ,he⟩)] at bn
     cases bn
     obtain ⟨aH,aN⟩:=he
     (repeat' first|(refine ab ?_;((repeat' first|exact True.intro|refine R.mk ?_ ?_);all_goals intros))|fail "")
     all_goals first
      | (exact bD)
      | (exfalso;omega)
      | (exfalso;dsimp only at *;omega)
      | (exfalso;simp only[IntKind.wrap_i64] at *;omega)
      | skip
    ·(repeat' first|(refine ab ?_;((repeat' first|exact True.intro|refine R.mk ?_ ?_);all_goals intros))|fail "")
     all_goals first
      | (refine ⟨k+1,?_,?_,?_⟩;rotate_left 2;(exact ax);(exact bN);(exact Ip))
      | (exfalso;omega)
      | (exfalso;dsimp only at *;omega)
      | (exfalso;simp only[IntKind.wrap_i64] at *;omega)
      | skip
   ·have ct:k=queue.length:=by omega
    subst ct
    have wq:¬ DC queue ⟨fh,gr,oF,fin,kY,kZ,kl⟩:=fun ⟨i,hi,e⟩=>ft i hi e
    rw[if_neg (by rw[qZ wq];exact Bool.false_ne_true)] at bn
    clear ft aJ ag wq
    by_cases sO:fh=16
    ·subst sO
     rw[if_neg (fun h=>by omega),if_pos rfl] at bn
     have h5:=h5 ⟨16,gr,bU.Max,fin,kY,kZ,kl⟩
     generalize hG queue ⟨16,gr,bU.Max,fin,kY,kZ,kl⟩=T at *
     obtain ⟨t1,t2⟩:=T
     unfold lf at h5
     cases bn
     dsimp only at h5
     (repeat' first|(refine ar (h5) (h:=?_))|(refine au (h5) (h:=?_))|(refine ab ?_;((repeat' first|exact True.intro|refine R.mk ?_ ?_);all_goals intros))|fail "")
     all_goals first
      | (exact bD)
      | (exfalso;omega)
      | (exfalso;dsimp only at *;omega)
      | (exfalso;simp only[IntKind.wrap_i64] at *;omega)
      | skip
    ·by_cases sP:fh=18
     ·subst sP
      rw[if_neg (fun h=>by omega),if_neg (by omega),if_pos rfl] at bn
      have h5:=h5 ⟨18,gr,cH,fin,kY,kZ,kl⟩
      generalize hG queue ⟨18,gr,cH,fin,kY,kZ,kl⟩=T at *
      obtain ⟨t1,t2⟩:=T
      unfold lf at h5
      cases bn
      dsimp only at h5
      (repeat' first|(refine ar (h5) (h:=?_))|(refine au (h5) (h:=?_))|(refine ab ?_;((repeat' first|exact True.intro|refine R.mk ?_ ?_);all_goals intros))|fail "")
      all_goals first
       | (exact bD)
       | (exfalso;omega)
       | (exfalso;dsimp only at *;omega)
       | (exfalso;simp only[IntKind.wrap_i64] at *;omega)
       | skip
     ·by_cases ow:fh=17
      ·subst ow
       rw[if_neg sO,if_neg sP,if_pos rfl] at bn
       by_cases U:eb bE gr<bE.length
       ·rw[if_pos U] at wo
        subst wo
        generalize eb bE gr=n at *
        cases qh:(bE.getD n default).Over
        ·rw[if_neg (fun h=>by rcases h.2 with h|h;omega;(rw[qh] at h;cases h))] at bn
         have h5:=h5 ⟨17,gr,(bE.getD n default).In.cK,fin,kY,kZ,kl⟩
         generalize hG queue ⟨17,gr,(bE.getD n default).In.cK,fin,kY,kZ,kl⟩=T at *
         obtain ⟨t1,t2⟩:=T
         unfold lf at h5
         cases bn
         dsimp only at h5
         (repeat' first|(refine ar (h5) (h:=?_))|(refine au (h5) (h:=?_))|(refine ab ?_;((repeat' first|exact True.intro|refine R.mk ?_ ?_);all_goals intros))|fail "")
         all_goals (try rw[qh])
         all_goals (first|done|((repeat' first|(refine ar (h5) (h:=?_))|(refine au (h5) (h:=?_))|(refine ab ?_;((repeat' first|exact True.intro|refine R.mk ?_ ?_);all_goals intros))|fail ""))|skip)
         all_goals first
          | (exact bD)
          | (exfalso;omega)
          | (exfalso;dsimp only at *;omega)
          | (exfalso;simp only[IntKind.wrap_i64] at *;omega)
          | skip
        ·rw[if_pos ⟨rfl,.inr qh⟩] at bn
         cases bn
         (repeat' first|(refine ab ?_;((repeat' first|exact True.intro|refine R.mk ?_ ?_);all_goals intros))|fail "")
         all_goals (try rw[qh])
         all_goals (first|done|((repeat' first|(refine ab ?_;((repeat' first|exact True.intro|refine R.mk ?_ ?_);all_goals intros))|fail ""))|skip)
         all_goals first
          | (exact bD)
          | (exfalso;omega)
          | (exfalso;dsimp only at *;omega)
          | (exfalso;simp only[IntKind.wrap_i64] at *;omega)
          | skip
       ·rw[if_neg U] at wo
        rw[if_pos ⟨rfl,.inl (by omega)⟩] at bn
        cases bn
        subst wo
        (repeat' first|(refine ab ?_;((repeat' first|exact True.intro|refine R.mk ?_ ?_);all_goals intros))|fail "")
        all_goals first
         | (exact bD)
         | (exfalso;omega)
         | (exfalso;dsimp only at *;omega)
         | (exfalso;simp only[IntKind.wrap_i64] at *;omega)
         | skip
      ·rw[if_neg (fun h=>ow h.1),if_neg sO,if_neg sP,if_neg ow] at bn
       have h5:=h5 ⟨fh,gr,oF,fin,kY,kZ,kl⟩
       generalize hG queue ⟨fh,gr,oF,fin,kY,kZ,kl⟩=T at *
       obtain ⟨t1,t2⟩:=T
       unfold lf at h5
       cases bn
       dsimp only at h5
       (repeat' first|(refine ar (h5) (h:=?_))|(refine au (h5) (h:=?_))|(refine ab ?_;((repeat' first|exact True.intro|refine R.mk ?_ ?_);all_goals intros))|fail "")
       all_goals first
        | (exact bD)
        | (exfalso;omega)
        | (exfalso;dsimp only at *;omega)
        | (exfalso;simp only[IntKind.wrap_i64] at *;omega)
        | skip
  ·rw[if_neg qg] at bn
   unfold ry at qg
   cases bn
   refine aU ae Tryz.func235 rfl ae ?_
   (repeat' first|(refine ar (fB) (h:=?_))|(refine au (fB) (h:=?_))|(refine ab ?_;((repeat' first|exact True.intro|refine R.mk ?_ ?_);all_goals intros))|fail "")
   all_goals first
    | (exact bD)
    | (exfalso;omega)
    | (exfalso;dsimp only at *;omega)
    | (exfalso;simp only[IntKind.wrap_i64] at *;omega)
    | skip
theorem Qg (c:a6) (l:List eN) (now:Int) (hw:ej c) (fj:j9 c.aO) (aq:c.aO.length<=4) (hq:c.Queue.length<=12) (ix:l.length<=1000000) (aw:∀ y,y ∈ l->jg y)
  (C:a6) (e:Int) (bn:h1 now c l=(C,e)) :
  Fn Tryz.prog 114 [.agg (e2 c),.ro (l.map bY),.lit (.int .i64 now)] (.b0 [.agg (e2 C),.lit (.int .i64 e)]):=by
 obtain ⟨aA,space,bp,bU,credit,ids,cH,opened,bE,b3,queue,last,cL,dw,code⟩:=c
 dsimp only at *
 refine aU ae Tryz.func114 rfl ae ?_
 (repeat' first|(refine ab ?_;((repeat' first|exact True.intro|refine R.mk ?_ ?_);all_goals intros))|fail "")
 refine b2 (fun x:Nat×fM×List dV×List bc=>⟨[(2,.lit (.int .i64 now)),(3,.ptr 0 0 0 0),(6,.ptr 1 0 0 0),(14,.ro (l.map bY)),(15,.lit (.int .i64 l.length)),(16,.lit (.int .i64 x.1))],[(0,some (.box 51 [.lit (.bool aA),.lit (.int .i64 space.Next),.ro (space.az.map bY),.lit (.int .i64 space.dn),.ro (space.cg.map aD),.ro (space.b7.map encI),.lit (.int .i64 x.2.1.cK),.lit (.int .i64 x.2.1.eE),.lit (.int .i64 x.2.1.dW),.lit (.int .i64 x.2.1.Since),.lit (.int .i64 bU.Max),.lit (.int .i64 bU.cm),.lit (.int .i64 credit.Max),.lit (.int .i64 credit.cm),.lit (.int .i64 ids),.lit (.int .i64 cH),.lit (.int .i64 opened),.ro (x.2.2.1.map cv),.lit (.bool b3),.ro (x.2.2.2.map aW),.lit (.int .i64 last),.lit (.int .i64 cL),.lit (.bool dw),.lit (.int .i64 code)])),(1,some (.box 51 [.lit (.bool false),.lit (.int .i64 0),.lit (.slice none 0 0),.lit (.int .i64 0),.lit (.slice none 0 0),.lit (.slice none 0 0),.lit (.int .i64 0),.lit (.int .i64 0),.lit (.int .i64 0),.lit (.int .i64 0),.lit (.int .i64 0),.lit (.int .i64 0),.lit (.int .i64 0),.lit (.int .i64 0),.lit (.int .i64 0),.lit (.int .i64 0),.lit (.int .i64 0),.lit (.slice none 0 0),.lit (.bool false),.lit (.slice none 0 0),.lit (.int .i64 0),.lit (.int .i64 0),.lit (.bool false),.lit (.int .i64 0)]))],2,Tryz.f114.ntmps⟩)
  (fun x=>x.1<=l.length/\h1 now ⟨aA,space,x.2.1,bU,credit,ids,cH,opened,x.2.2.1,b3,x.2.2.2,last,cL,dw,code⟩ (l.drop x.1)=(C,e)/\ej ⟨aA,space,x.2.1,bU,credit,ids,cH,opened,x.2.2.1,b3,x.2.2.2,last,cL,dw,code⟩/\j9 x.2.2.1/\x.2.2.1.length<=4/\x.2.2.2.length<=12) (fun x=>l.length - x.1) (0,bp,bE,queue) ⟨Nat.zero_le _,bn,hw,fj,aq,hq⟩ gf ?_
 clear bn fj hq hw aq
 rintro ⟨k,p,ck,q⟩ ⟨ag,hm,hw,fj,fW,hq⟩
 dsimp only at *
 by_cases aJ:k<l.length
 ·rw[drop_cons aJ] at hm
  unfold h1 at hm
  have nj:=aw _ (cY aJ)
  have fS:=Qh p hw.2.1 (min (l.getD k default).fm p.dW) (l.getD k default).Time now
  rw[Int.min_comm] at fS
  unfold ss nR at hm
  dsimp only at hm
  have kb:=Ct p (min (l.getD k default).fm p.dW) (l.getD k default).Time now hw.2.1
  rw[Int.min_comm] at hm kb
  generalize ov p (min p.dW (l.getD k default).fm) (l.getD k default).Time now=sQ at *
  obtain ⟨c7,sM⟩:=sQ
  dsimp only at *
  have IC:ej ⟨aA,space,c7,bU,credit,ids,cH,opened,ck,b3,q,last,cL,dw,code⟩:=⟨hw.1,kb,hw.2.2⟩
  have jC:(l.getD k default).Frames.length<=1000000000000000:=by have:=nj.2.2.2.1;omega
  have rk:=nj.2.2.2.2
  generalize wu:jh ⟨aA,space,c7,bU,credit,ids,cH,opened,ck,b3,q,last,cL,dw,code⟩ (l.getD k default).Frames=DD at *
  obtain ⟨DE,aN⟩:=DD
  clear hw kb
  (repeat' first|(refine ar (fS) (h:=?_))|(refine au (fS) (h:=?_))|(refine ab ?_;((repeat' first|exact True.intro|refine R.mk ?_ ?_);all_goals intros))|fail "")
  refine b2 (fun x:Nat×List dV×List bc=>⟨[(2,.lit (.int .i64 now)),(3,.ptr 0 0 0 0),(6,.ptr 1 0 0 0),(14,.ro (l.map bY)),(15,.lit (.int .i64 l.length)),(16,.lit (.int .i64 k)),(37,.ro ((l.getD k default).Frames.map aW)),(38,.lit (.int .i64 (l.getD k default).Frames.length)),(39,.lit (.int .i64 x.1))],[(0,some (.box 51 [.lit (.bool aA),.lit (.int .i64 space.Next),.ro (space.az.map bY),.lit (.int .i64 space.dn),.ro (space.cg.map aD),.ro (space.b7.map encI),.lit (.int .i64 c7.cK),.lit (.int .i64 c7.eE),.lit (.int .i64 c7.dW),.lit (.int .i64 c7.Since),.lit (.int .i64 bU.Max),.lit (.int .i64 bU.cm),.lit (.int .i64 credit.Max),.lit (.int .i64 credit.cm),.lit (.int .i64 ids),.lit (.int .i64 cH),.lit (.int .i64 opened),.ro (x.2.1.map cv),.lit (.bool b3),.ro (x.2.2.map aW),.lit (.int .i64 last),.lit (.int .i64 cL),.lit (.bool dw),.lit (.int .i64 code)])),(1,some (.box 51 [.lit (.bool false),.lit (.int .i64 0),.lit (.slice none 0 0),.lit (.int .i64 0),.lit (.slice none 0 0),.lit (.slice none 0 0),.lit (.int .i64 0),.lit (.int .i64 0),.lit (.int .i64 0),.lit (.int .i64 0),.lit (.int .i64 0),.lit (.int .i64 0),.lit (.int .i64 0),.lit (.int .i64 0),.lit (.int .i64 0),.lit (.int .i64 0),.lit (.int .i64 0),.lit (.slice none 0 0),.lit (.bool false),.lit (.slice none 0 0),.lit (.int .i64 0),.lit (.int .i64 0),.lit (.bool false),.lit (.int .i64 0)]))],2,Tryz.f114.ntmps⟩)
   (fun x=>x.1<=(l.getD k default).Frames.length/\jh ⟨aA,space,c7,bU,credit,ids,cH,opened,x.2.1,b3,x.2.2,last,cL,dw,code⟩ ((l.getD k default).Frames.drop x.1)=(DE,aN)/\ej ⟨aA,space,c7,bU,credit,ids,cH,opened,x.2.1,b3,x.2.2,last,cL,dw,code⟩/\j9 x.2.1/\x.2.1.length<=4/\x.2.2.length<=12) (fun x=>(l.getD k default).Frames.length - x.1) (0,ck,q) ⟨Nat.zero_le _,wu,IC,fj,fW,hq⟩ gf ?_
  clear wu fj fW hq fS IC
  rintro ⟨j,ck,q⟩ ⟨ah,ei,hw,fj,fW,hq⟩
  dsimp only at *
  by_cases jy:j<(l.getD k default).Frames.length
  ·rw[drop_cons jy] at ei
   unfold jh at ei
   have qf:=rk _ (cY jy)
   have Ai:=Qd ⟨aA,space,c7,bU,credit,ids,cH,opened,ck,b3,q,last,cL,dw,code⟩ ((l.getD k default).Frames.getD j default) fj kU hq qf
   obtain ⟨fs,a2,a3,a4⟩:=G4 hw fj fW hq qf
   generalize (l.getD k default).Frames=dA at *
   generalize jz ⟨aA,space,c7,bU,credit,ids,cH,opened,ck,b3,q,last,cL,dw,code⟩ (dA.getD j default)=wm at *
   obtain ⟨IA,wj,wk⟩:=wm
   unfold l3 at *
   dsimp only at *
   by_cases rz:wk=0
   ·subst rz
    rw[if_pos rfl] at ei
    (repeat' first|(refine ar (Ai) (h:=?_))|(refine au (Ai) (h:=?_))|(refine ab ?_;((repeat' first|exact True.intro|refine R.mk ?_ ?_);all_goals intros))|fail "")
    all_goals first
     | (refine ⟨(j+1,IA,wj),?_,?_,?_⟩;rotate_left 2;(exact ax);(exact bV);(focus (exact⟨jy,ei,fs,a2,a3,a4⟩)))
     | (exfalso;omega)
     | (exfalso;dsimp only at *;omega)
     | (exfalso;simp only[IntKind.wrap_i64] at *;omega)
     | skip
   ·rw[if_neg rz] at ei
    cases ei
    rw[if_neg rz] at hm
    cases hm
    (repeat' first|(refine ar (Ai) (h:=?_))|(refine au (Ai) (h:=?_))|(refine ab ?_;((repeat' first|exact True.intro|refine R.mk ?_ ?_);all_goals intros))|fail "")
    all_goals first
     | (exact bD)
     | (exfalso;omega)
     | (exfalso;dsimp only at *;omega)
     | (exfalso;simp only[IntKind.wrap_i64] at *;omega)
     | skip
  ·have sm:j=(l.getD k default).Frames.length:=by omega
   subst sm
   rw[List.drop_length] at ei
   unfold jh at ei
   cases ei
   rw[if_pos rfl] at hm
   (repeat' first|(refine ab ?_;((repeat' first|exact True.intro|refine R.mk ?_ ?_);all_goals intros))|fail "")
   all_goals first
    | (refine ⟨(k+1,c7,ck,q),?_,?_,?_⟩;rotate_left 2;(exact ax);(exact bV);(focus (exact⟨aJ,hm,hw,fj,fW,hq⟩)))
    | skip
 ·have ct:k=l.length:=by omega
  subst ct
  rw[List.drop_length] at hm
  unfold h1 at hm
  cases hm
  (repeat' first|(refine ab ?_;((repeat' first|exact True.intro|refine R.mk ?_ ?_);all_goals intros))|fail "")
  all_goals first
   | (exact bD)
   | skip
theorem ID (c:a6) (e:Int):Fn Tryz.prog 70 [.agg (e2 c),.lit (.int .i64 e)] (.agg (e2 (kN c e))):=by
 unfold kN
 generalize fA:e2 { c with iz:=true,Code:=e,Queue:=[ox e],aO:=[],ke:=false }=Z
 unfold e2 at fA
 dsimp only at fA
 subst fA
 refine aU ae Tryz.func70 rfl ae ?_
 (repeat' first|refine bB (hq:=y2 rfl rfl rfl rfl) (h:=?_)|(refine ep (h:=?_);refine y3 (y4 12 (l:=[sv e]) (fl:=[ox e].map aW) rfl rfl (Hc e) (Hb e)) ?_)|(refine fc ?_;((repeat' first|exact True.intro|refine R.mk ?_ ?_);all_goals intros))|refine bB (h:=?_)|refine bB (hq:=eo rfl rfl rfl ew ey rfl rfl rfl rfl) (h:=?_)|refine da (h:=?_)|refine dJ (h:=?_)|refine ep (h:=?_)|refine ez (h:=?_)|refine eA (h:=?_)|refine eB (h:=?_)|refine eC (h:=?_)|refine eD (h:=?_)|(refine dS rfl ?_ (h:=?_);(exact bP))|(refine dT rfl ?_ (h:=?_);(exact bP))|fail "")
 all_goals first
  | (exact bD)
  | skip
theorem Qi (c:a6) (now:Int) (hu:W.ej c):Fn Tryz.prog 49 [.agg (e2 c),.lit (.int .i64 now)] (ub (ku c now)):=by
 have hw:=W.pT c hu
 have I:=DF c hu
 unfold ku ub
 rcases tZ c with⟨af,bu⟩ | ⟨af,bu⟩
 ·rw[af] at I ⊢
  rw[if_pos rfl]
  by_cases hH:0<=now/\now<=1099511627776
  ·rw[if_pos hH]
   have vE:=bu.1.1.1.2
   unfold iR at vE
   cases gK:c.iz
   ·rw[if_neg Bool.false_ne_true]
    by_cases hid:60<=now - c.jO
    ·rw[if_pos hid]
     have hS:=ID c 16
     clear hu hw bu
     unfold kN at *
     unfold lf
     obtain ⟨aA,space,bp,bU,credit,ids,cH,opened,bE,b3,queue,last,cL,dw,code⟩:=c
     dsimp only at *
     subst gK
     refine aU ae Tryz.func49 rfl ae ?_
     (repeat' first|(refine ar (I) (h:=?_))|(refine au (I) (h:=?_))|(refine ar (hS) (h:=?_))|(refine au (hS) (h:=?_))|(refine dM (cB _ _) (ht:=?_) (hff:=?_) <;> intro _ <;> try (exfalso;omega))|(refine dN (cB _ _) (ht:=?_) (hff:=?_) <;> intro _ <;> try (exfalso;omega))|(refine ab ?_;((repeat' first|exact True.intro|refine R.mk ?_ ?_);all_goals intros))|fail "")
     all_goals (try dsimp only at *)
     all_goals first
      | (exact bD)
      | (exfalso;omega)
      | (exfalso;dsimp only at *;omega)
      | (exfalso;simp only[IntKind.wrap_i64] at *;omega)
      | skip
    ·rw[if_neg hid]
     have pU:=OD c.bf now 8 hw.1
     obtain ⟨v1,v2,v3⟩:=He c.bf now 8 hw.1
     have v4:=G9 c.bf now 8
     generalize hF c.bf now 8=O at *
     obtain ⟨q4,lost,N2⟩:=O
     dsimp only at *
     have fj:j9 c.aO:=fun y ai=>hu.2.2.2.2.2.2.2.2.1 y ai
     have kb:ej (ie c q4):=⟨v1,hw.2⟩
     have kd:=Qg (ie c q4) lost now kb fj (by have:=vE;unfold ie;dsimp only;omega) (by unfold ie;dsimp only;omega) (by omega) v3
     generalize h1 now (ie c q4) lost=cN at *
     obtain ⟨C,e⟩:=cN
     have kd:=kd C e rfl
     have hS:=ID C e
     dsimp only at *
     clear hu hw bu kb v1 v2 v3 v4
     unfold ie at kd
     obtain ⟨aA,space,bp,bU,credit,ids,cH,opened,bE,b3,queue,last,cL,dw,code⟩:=c
     dsimp only at *
     subst gK
     by_cases he:e=0
     ·subst he
      rw[if_pos rfl]
      refine aU ae Tryz.func49 rfl ae ?_
      (repeat' first|(refine ar (I) (h:=?_))|(refine au (I) (h:=?_))|(refine ar (pU) (h:=?_))|(refine au (pU) (h:=?_))|(refine ar (kd) (h:=?_))|(refine au (kd) (h:=?_))|(refine dM (cB _ _) (ht:=?_) (hff:=?_) <;> intro _ <;> try (exfalso;omega))|(refine dN (cB _ _) (ht:=?_) (hff:=?_) <;> intro _ <;> try (exfalso;omega))|(refine ab ?_;((repeat' first|exact True.intro|refine R.mk ?_ ?_);all_goals intros))|fail "")
      all_goals (try dsimp only at *)
      all_goals first
       | (exact bD)
       | (exfalso;omega)
       | (exfalso;dsimp only at *;omega)
       | (exfalso;simp only[IntKind.wrap_i64] at *;omega)
       | skip
     ·rw[if_neg he]
      refine aU ae Tryz.func49 rfl ae ?_
      (repeat' first|(refine ar (I) (h:=?_))|(refine au (I) (h:=?_))|(refine ar (pU) (h:=?_))|(refine au (pU) (h:=?_))|(refine ar (kd) (h:=?_))|(refine au (kd) (h:=?_))|(refine ar (hS) (h:=?_))|(refine au (hS) (h:=?_))|(refine dM (cB _ _) (ht:=?_) (hff:=?_) <;> intro _ <;> try (exfalso;omega))|(refine dN (cB _ _) (ht:=?_) (hff:=?_) <;> intro _ <;> try (exfalso;omega))|(refine ab ?_;((repeat' first|exact True.intro|refine R.mk ?_ ?_);all_goals intros))|fail "")
      all_goals (try dsimp only at *)
      all_goals first
       | (exact bD)
       | (exfalso;omega)
       | (exfalso;dsimp only at *;omega)
       | (exfalso;simp only[IntKind.wrap_i64] at *;omega)
       | skip
   ·rw[if_pos rfl]
    clear hu hw bu
    obtain ⟨aA,space,bp,bU,credit,ids,cH,opened,bE,b3,queue,last,cL,dw,code⟩:=c
    dsimp only at *
    subst gK
    refine aU ae Tryz.func49 rfl ae ?_
    (repeat' first|(refine ar (I) (h:=?_))|(refine au (I) (h:=?_))|(refine dM (cB _ _) (ht:=?_) (hff:=?_) <;> intro _ <;> try (exfalso;omega))|(refine dN (cB _ _) (ht:=?_) (hff:=?_) <;> intro _ <;> try (exfalso;omega))|(refine ab ?_;((repeat' first|exact True.intro|refine R.mk ?_ ?_);all_goals intros))|fail "")
    all_goals (try dsimp only at *)
    all_goals first
     | (exact bD)
     | (exfalso;omega)
     | (exfalso;dsimp only at *;omega)
     | (exfalso;simp only[IntKind.wrap_i64] at *;omega)
     | skip
  ·rw[if_neg hH]
   clear hu hw bu
   refine aU ae Tryz.func49 rfl ae ?_
   (repeat' first|(refine ar (I) (h:=?_))|(refine au (I) (h:=?_))|(refine dM (cB _ _) (ht:=?_) (hff:=?_) <;> intro _ <;> try (exfalso;omega))|(refine dN (cB _ _) (ht:=?_) (hff:=?_) <;> intro _ <;> try (exfalso;omega))|(refine ab ?_;((repeat' first|exact True.intro|refine R.mk ?_ ?_);all_goals intros))|fail "")
   all_goals (try dsimp only at *)
   all_goals first
    | (exact bD)
    | (exfalso;omega)
    | (exfalso;dsimp only at *;omega)
    | (exfalso;simp only[IntKind.wrap_i64] at *;omega)
    | skip
 ·rw[af] at I ⊢
  rw[if_neg (by decide)]
  clear hu hw bu
  refine aU ae Tryz.func49 rfl ae ?_
  (repeat' first|(refine ar (I) (h:=?_))|(refine au (I) (h:=?_))|(refine ab ?_;((repeat' first|exact True.intro|refine R.mk ?_ ?_);all_goals intros))|fail "")
  all_goals first
   | (exact bD)
   | skip
end Go.Proofs.YtendheafcbickaaGreat
