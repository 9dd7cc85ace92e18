/-
  SEVERAL TEXTS IN ONE: each with its own comment.
-/
import Derived.Test.YtendheafcbickaaGreatTGo
import Derived.Test.YtendheafcbickaaGreatTMg17
import Derived.Test.YtendheafcbickaaGreatTMg12
import Derived.Test.YtendheafcbickaaGreatTMg06
import Derived.Test.YtendheafcbickaaGreatTZip
import Derived.Test.YtendheafcbickaaGreatTMg20
import Derived.Test.YtendheafcbickaaGreatTOverdue
import Derived.Test.YtendheafcbickaaGreatTMg15
set_option linter.unusedVariables false
set_option linter.unusedSimpArgs false
set_option maxHeartbeats 16000000
namespace Go.Proofs.YtendheafcbickaaGreat
section
set_option maxRecDepth 100000
attribute [local irreducible] cq a8 bw GStep Fn cu bk cU
noncomputable def Gg (s:dE) (b:List UInt8) (fin:Bool):dE×Int:=
 if kM s≠0 then(p3,kM s) else if s.Fin=true then(p3,17) else if 600<s.Data.length+b.length then(p3,8) else({ s with Data:=s.Data++b,Fin:=fin },0)
noncomputable def Db (s:dE) (n:Int):dE×Int:=
 if kM s≠0 then(p3,kM s) else if 0<=n/\n<=4611686018427387903 then({ s with Max:=max s.Max n },0) else(p3,6)
def nx (c:a6) (i:Nat) (l:dV):a6:={ c with aO:=c.aO.set i l }
noncomputable def rG (c:a6) (id:Int) (b:List UInt8) (fin:Bool):a6×Int:=
 if l0 c=0 then(if c.iz=true then(default,17) else if eb c.aO id<c.aO.length then
  (if (Gg (c.aO.getD (eb c.aO id) default).Out b fin).2=0 then(nx c (eb c.aO id) { c.aO.getD (eb c.aO id) default with Out:=(Gg (c.aO.getD (eb c.aO id) default).Out b fin).1 },0) else(default,(Gg (c.aO.getD (eb c.aO id) default).Out b fin).2)) else(default,5)) else(default,9)
theorem Qe (c:a6) (id:Int) (aq:c.aO.length<=1000000):Fn Tryz.prog 105 [.agg (e2 c),.lit (.int .i64 id)] (.lit (.int .i64 (if eb c.aO id<c.aO.length then(eb c.aO id:Int) else -1))):=by
 have hle:=q1 c.aO id
 generalize fS:(if eb c.aO id<c.aO.length then(eb c.aO id:Int) else -1)=cN
 refine aU ae Tryz.func105 rfl ae ?_
 (repeat' first|(refine ab ?_;((repeat' first|exact True.intro|refine R.mk ?_ ?_);all_goals intros))|fail "")
 refine b2 (fun k:Nat=>⟨[(1,.lit (.int .i64 id)),(8,.ro (c.aO.map cv)),(9,.lit (.int .i64 c.aO.length)),(10,.lit (.int .i64 k))],[],0,Tryz.f105.ntmps⟩)
  (fun k=>k<=eb c.aO id) (fun k=>c.aO.length - k) 0 (Nat.zero_le _) gf ?_
 intro k ag
 by_cases aJ:k<c.aO.length
 ·by_cases he:(c.aO.getD k default).Id=id
  ·have U:=MB aJ ag he
   rw[U,if_pos aJ] at fS
   subst fS
   (repeat' first|(refine ab ?_;((repeat' first|exact True.intro|refine R.mk ?_ ?_);all_goals intros))|fail "")
   all_goals first
    | (exact bD)
    | skip
  ·have U:=MC aJ ag he
   (repeat' first|(refine ab ?_;((repeat' first|exact True.intro|refine R.mk ?_ ?_);all_goals intros))|fail "")
   all_goals first
    | (refine ⟨k+1,?_,?_,?_⟩;rotate_left 2;(exact ax);(exact bN);(focus (exact U)))
    | skip
 ·have ct:k=c.aO.length:=by omega
  rw[if_neg (by omega)] at fS
  subst fS
  (repeat' first|(refine ab ?_;((repeat' first|exact True.intro|refine R.mk ?_ ?_);all_goals intros))|fail "")
  all_goals first
   | (exact bD)
   | skip
theorem IB (c:a6) (i:Nat) (l:dV) (aq:c.aO.length<=1000000) (hi:i<c.aO.length):Fn Tryz.prog 107 [.agg (e2 c),.lit (.int .i64 i),.agg (cv l)] (.agg (e2 (nx c i l))):=by
 unfold nx
 generalize fA:e2 { c with aO:=c.aO.set i l }=Z
 unfold e2 at fA
 dsimp only at fA
 subst fA
 refine aU ae Tryz.func107 rfl ae ?_
 (repeat' first|(refine cx (r:=c.aO.map cv) ?_ ?_ ?_ ?_ (h:=?_);(exact aM);(exact al);(exact an);(exact ao))|(refine cD (r:=c.aO.map cv) ?_ ?_ ?_ ?_ (h:=?_);(exact aM);(exact al);(exact an);(exact ao))|(refine cE (r:=c.aO.map cv) ?_ ?_ ?_ ?_ (h:=?_);(exact aM);(exact al);(exact an);(exact ao))|(refine cF (r:=c.aO.map cv) ?_ ?_ ?_ ?_ (h:=?_);(exact aM);(exact al);(exact an);(exact ao))|(refine mG (r:=(c.aO.set i l).map cv) ?_ ?_ (h:=?_);(exact hQ);(focus ((rw[je cv hi,List.map_set];rfl))))|(refine mH (r:=(c.aO.set i l).map cv) ?_ ?_ (h:=?_);(exact hQ);(focus ((rw[je cv hi,List.map_set];rfl))))|(refine ab ?_;((repeat' first|exact True.intro|refine R.mk ?_ ?_);all_goals intros))|fail "")
 all_goals first
  | (exact bD)
  | skip
end
section
set_option maxRecDepth 100000
def ox (e:Int):bc:=⟨28,0,0,false,e,[],[]⟩
def kN (c:a6) (e:Int):a6:={ c with iz:=true,Code:=e,Queue:=[ox e],aO:=[],ke:=false }
def DC (q:List bc) (f:bc):Prop:=∃ i,i<q.length/\(q.getD i default).Kind=f.Kind/\(q.getD i default).Id=f.Id
def l4 (c:a6) (id:Int):dV:=c.aO.getD (eb c.aO id) default
def so (f:bc) (n:Int):bc:=⟨f.Kind,f.Id,n,f.Fin,f.Code,f.bi,f.Data⟩
def sq (c:a6) (f:bc):bc:=if f.Kind=16 then so f c.fL.Max else if f.Kind=18 then so f c.kK else if f.Kind=17 then so f (l4 c f.Id).In.cK else f
noncomputable def l2 (c:a6) (f:bc):List bc×Int:=
 if yes (DC c.Queue f)=true then(c.Queue,0)
 else if f.Kind=17/\(eb c.aO f.Id=c.aO.length\/(l4 c f.Id).Over=true) then(c.Queue,0)
 else hG c.Queue (sq c f)
def ry (k:Int):Prop:=k=4\/k=16\/k=17\/k=18\/k=6\/k=7\/k=30
instance (k:Int):Decidable (ry k):=inferInstanceAs (Decidable (_\/_))
noncomputable def jz (c:a6) (f:bc):List dV×List bc×Int:=
  if f.Kind=8 then
    (if eb c.aO f.Id<c.aO.length then
      (if (ld (l4 c f.Id).Out f.bI f.Data.length f.Fin).2=0 then(c.aO.set (eb c.aO f.Id) { l4 c f.Id with Out:=(ld (l4 c f.Id).Out f.bI f.Data.length f.Fin).1 },c.Queue,0) else(c.aO,c.Queue,(ld (l4 c f.Id).Out f.bI f.Data.length f.Fin).2))
     else(c.aO,c.Queue,0))
  else if ry f.Kind then(c.aO,(l2 c f).1,(l2 c f).2)
  else(c.aO,c.Queue,0)
def l3 (c:a6) (l:List dV) (q:List bc):a6:={ c with aO:=l,Queue:=q }
def nR (c:a6) (p:fM):a6:={ c with e8:=p }
noncomputable def jh (c:a6):List bc->a6×Int
 | []=>(c,0)
 | f :: l=>if (jz c f).2.2=0 then jh (l3 c (jz c f).1 (jz c f).2.1) l else(c,(jz c f).2.2)
def ss (c:a6) (p:eN) (now:Int):fM:=(ov c.e8 (min p.fm c.e8.dW) p.Time now).1
noncomputable def h1 (now:Int) (c:a6):List eN->a6×Int
 | []=>(c,0)
 | p :: l=>if (jh (nR c (ss c p now)) p.Frames).2=0 then h1 now (jh (nR c (ss c p now)) p.Frames).1 l else jh (nR c (ss c p now)) p.Frames
def ie (c:a6) (s:c8):a6:={ c with bf:=s }
noncomputable def ku (c:a6) (now:Int):a6×Int:=
 if l0 c=0 then(if 0<=now/\now<=1099511627776 then(if c.iz=true then(c,0)
  else if 60<=now - c.jO then(lf (kN c 16) [],0)
  else if (h1 now (ie c (hF c.bf now 8).1) (hF c.bf now 8).2.1).2=0 then((h1 now (ie c (hF c.bf now 8).1) (hF c.bf now 8).2.1).1,0)
  else(kN (h1 now (ie c (hF c.bf now 8).1) (hF c.bf now 8).2.1).1 (h1 now (ie c (hF c.bf now 8).1) (hF c.bf now 8).2.1).2,0)) else(default,6)) else(default,9)
theorem BK:∀ {l:List aQ} {a m:Int},ed a l->(∀ x ∈ l,x.br<m)->a<m->2 * (l.length:Int)<=m - a
 | [],a,m,_,_,bj=>by simp;omega
 | r :: l,a,m,h,hm,bj=>by
  have I:=hm r List.mem_cons_self
  have aj:=h.1
  unfold b9 at aj
  have:=BK (a:=r.br) h.2.2 (fun x U=>hm x (List.mem_cons_of_mem _ U)) I
  have J:=h.2.1
  rw[List.length_cons];omega
def j9 (l:List dV):Prop:=∀ y ∈ l,W.gM y
theorem Cw {s:dE} {off n:Int} {fin:Bool} (hw:bR.hJ s) (af:(ld s off n fin).2=0):bR.hJ (ld s off n fin).1:=by
 unfold ld at *
 by_cases jl:kS s off n fin=0
 ·obtain ⟨bu,aw⟩:=C1 jl
  obtain ⟨aT,a1,bz,cW⟩:=C0 bu aw
  rw[if_neg (by omega)]
  obtain ⟨cy,cR,w3,ef,dU,eS,fV⟩:=hw
  unfold zs
  refine ⟨cy,cR,w3,?_,?_,eS,fV⟩
  ·dsimp only
   by_cases hn0:0<n
   ·rw[if_pos hn0]
    obtain ⟨g1,g2⟩:=sG a1 (cW hn0) s.dF.length (Nat.le_refl _)
    obtain ⟨_,_,av⟩:=vU (jS s.dF ⟨off,off+n - 1⟩ s.dF.length) aT (fun x U=>(ji g1 x U).1)
    have hh:=bu.1.1.1
    unfold nm at hh
    have f1:=BK aT ((p1 aT).1 bu.1.1.2) (by omega)
    have f2:=BK a1 ((p1 a1).1 bu.1.2) (by omega)
    omega
   ·rw[if_neg hn0];exact ef
  ·dsimp only
   by_cases hn0:0<n
   ·rw[if_pos hn0]
    obtain ⟨g1,g2⟩:=sG a1 (cW hn0) s.dF.length (Nat.le_refl _)
    obtain ⟨I,_,av⟩:=vU (jS s.dF ⟨off,off+n - 1⟩ s.dF.length) aT (fun x U=>(ji g1 x U).1)
    intro y ai
    have aj:=(ji I y ai).1
    unfold b9 at aj
    unfold bR.fz aF;omega
   ·rw[if_neg hn0];exact dU
 ·rw[if_pos jl] at af
  exact absurd af jl
end
section
set_option maxRecDepth 100000
attribute [local irreducible] cq a8 bw GStep Fn cu bk cU
theorem UX (c:a6) (f:bc) (aq:c.aO.length<=1000000) (hq:c.Queue.length<=12) :
  cU Tryz.prog 233 [.ptr 0 0 0 0,.agg (aW f)] [(0,some (.box 116 (gp c (.own 1) (.own 2)))),(1,some (.row 134 16 (c.aO.map cv))),(2,some (.row 111 7 (c.Queue.map aW)))] 3
   (.lit (.int .i64 (l2 c f).2)) [(0,some (.box 116 (gp c (.own 1) (.own 3)))),(1,some (.row 134 16 (c.aO.map cv))),(3,some (.row 111 7 ((l2 c f).1.map aW)))] 4:=by
 have aV:=fun g=>UY c g hq
 have fB:=MD c f.Id aq
 have hle:=q1 c.aO f.Id
 generalize bn:l2 c f=cN
 obtain ⟨wj,wk⟩:=cN
 unfold l2 sq at bn
 unfold yE at fB
 unfold l4 at bn
 unfold gp at *
 obtain ⟨aA,space,bp,bU,credit,ids,cH,opened,bE,b3,queue,last,cL,dw,code⟩:=c
 obtain ⟨fh,gr,oF,fin,kY,kZ,kl⟩:=f
 unfold so at bn
 dsimp only at *
 refine gG ae Tryz.func233 rfl ae (by rfl) ?_
 (repeat' first|(refine ab ?_;((repeat' first|exact True.intro|refine R.mk ?_ ?_);all_goals intros))|fail "")
 refine b2 (fun k:Nat=>⟨[(0,.ptr 0 0 0 0),(3,.ptr 3 0 0 0),(12,.own 4),(13,.lit (.int .i64 queue.length)),(14,.lit (.int .i64 k))],[(0,some (.box 116 [.lit (.bool aA),.lit (.int .i64 space.Next),.ro (space.az.map bY),.lit (.int .i64 space.dn),.ro (space.cg.map aD),.ro (space.b7.map encI),.lit (.int .i64 bp.cK),.lit (.int .i64 bp.eE),.lit (.int .i64 bp.dW),.lit (.int .i64 bp.Since),.lit (.int .i64 bU.Max),.lit (.int .i64 bU.cm),.lit (.int .i64 credit.Max),.lit (.int .i64 credit.cm),.lit (.int .i64 ids),.lit (.int .i64 cH),.lit (.int .i64 opened),.own 1,.lit (.bool b3),.own 4,.lit (.int .i64 last),.lit (.int .i64 cL),.lit (.bool dw),.lit (.int .i64 code)])),(1,some (.row 134 16 (bE.map cv))),(3,some (.box 111 [.lit (.int .i64 fh),.lit (.int .i64 gr),.lit (.int .i64 oF),.lit (.bool fin),.lit (.int .i64 kY),.ro (kZ.map aD),.ro (kl.map aC)])),(4,some (.row 111 7 (queue.map aW)))],5,Tryz.f233.ntmps⟩)
  (fun k=>k<=queue.length /\ ∀ i,i<k -> ¬ ((queue.getD i default).Kind=fh/\(queue.getD i default).Id=gr)) (fun k=>queue.length - k) 0 ⟨Nat.zero_le _,fun i h=>by omega⟩ (by first|exact pO 2|skip) ?_
 rintro k ⟨ag,ft⟩
 by_cases aJ:k<queue.length
 ·by_cases he:(queue.getD k default).Kind=fh/\(queue.getD k default).Id=gr
  ·rw[if_pos (nh ⟨k,aJ,he⟩)] at bn
   cases bn
   obtain ⟨aH,aN⟩:=he
   (repeat' first|(refine ab ?_;((repeat' first|exact True.intro|refine R.mk ?_ ?_);all_goals intros))|fail "")
   all_goals first
    | (exact fg)
    | (exfalso;omega)
    | skip
  ·(repeat' first|(refine ab ?_;((repeat' first|exact True.intro|refine R.mk ?_ ?_);all_goals intros))|fail "")
   all_goals first
    | (refine ⟨k+1,?_,?_,?_⟩;rotate_left 2;(exact ax);(exact bN);(exact Ip))
    | (exfalso;omega)
    | skip
 ·have ct:k=queue.length:=by omega
  subst ct
  have wq:¬ DC queue ⟨fh,gr,oF,fin,kY,kZ,kl⟩:=fun ⟨i,hi,e⟩=>ft i hi e
  rw[if_neg (by rw[qZ wq];exact Bool.false_ne_true)] at bn
  clear ft aJ ag wq
  by_cases sO:fh=16
  ·subst sO
   rw[if_neg (fun h=>by omega),if_pos rfl] at bn
   have aV:=aV ⟨16,gr,bU.Max,fin,kY,kZ,kl⟩
   rw[bn] at aV
   (repeat' first|(refine eL [0,1,4] (aV) (h:=?_))|(refine eM [0,1,4] (aV) (h:=?_))|(refine gU [0,1,4] (aV) (h:=?_))|(refine ab ?_;((repeat' first|exact True.intro|refine R.mk ?_ ?_);all_goals intros))|fail "")
   all_goals first
    | (exact fg)
    | (exfalso;omega)
    | skip
  ·by_cases sP:fh=18
   ·subst sP
    rw[if_neg (fun h=>by omega),if_neg (by omega),if_pos rfl] at bn
    have aV:=aV ⟨18,gr,cH,fin,kY,kZ,kl⟩
    rw[bn] at aV
    (repeat' first|(refine eL [0,1,4] (aV) (h:=?_))|(refine eM [0,1,4] (aV) (h:=?_))|(refine gU [0,1,4] (aV) (h:=?_))|(refine ab ?_;((repeat' first|exact True.intro|refine R.mk ?_ ?_);all_goals intros))|fail "")
    all_goals first
     | (exact fg)
     | (exfalso;omega)
     | skip
   ·by_cases ow:fh=17
    ·subst ow
     rw[if_neg sO,if_neg sP,if_pos rfl] at bn
     by_cases U:eb bE gr<bE.length
     ·rw[if_pos U] at fB
      have eT:eb bE gr<(bE.map cv).length:=by rw[List.length_map];exact U
      have ga:=je cv U
      generalize eb bE gr=n at *
      cases qh:(bE.getD n default).Over
      ·rw[if_neg (fun h=>by rcases h.2 with h|h;omega;(rw[qh] at h;cases h))] at bn
       have aV:=aV ⟨17,gr,(bE.getD n default).In.cK,fin,kY,kZ,kl⟩
       rw[bn] at aV
       (repeat' first|(refine eL [0,1,4] (fB) (h:=?_))|(refine eM [0,1,4] (fB) (h:=?_))|(refine gU [0,1,4] (fB) (h:=?_))|refine bB (hq:=y2 rfl rfl rfl rfl) (h:=?_)|(refine fc ?_;((repeat' first|exact True.intro|refine R.mk ?_ ?_);all_goals intros))|refine bB (h:=?_)|refine bB (hq:=eo rfl rfl rfl ew ey rfl rfl rfl rfl) (h:=?_)|refine da (h:=?_)|refine dJ (h:=?_)|refine ep (h:=?_)|refine ez (h:=?_)|refine eA (h:=?_)|refine eB (h:=?_)|refine eC (h:=?_)|refine eD (h:=?_)|(refine dS rfl ?_ (h:=?_);(exact bP))|(refine dT rfl ?_ (h:=?_);(exact bP))|fail "")
       all_goals (try rw[qh])
       all_goals (first|done|((repeat' first|(refine eL [0,1,4] (aV) (h:=?_))|(refine eM [0,1,4] (aV) (h:=?_))|(refine gU [0,1,4] (aV) (h:=?_))|(refine ab ?_;((repeat' first|exact True.intro|refine R.mk ?_ ?_);all_goals intros))|fail ""))|skip)
       all_goals first
        | (exact fg)
        | (exfalso;omega)
        | skip
      ·rw[if_pos ⟨rfl,.inr qh⟩] at bn
       cases bn
       (repeat' first|(refine eL [0,1,4] (fB) (h:=?_))|(refine eM [0,1,4] (fB) (h:=?_))|(refine gU [0,1,4] (fB) (h:=?_))|refine bB (hq:=y2 rfl rfl rfl rfl) (h:=?_)|(refine fc ?_;((repeat' first|exact True.intro|refine R.mk ?_ ?_);all_goals intros))|refine bB (h:=?_)|refine bB (hq:=eo rfl rfl rfl ew ey rfl rfl rfl rfl) (h:=?_)|refine da (h:=?_)|refine dJ (h:=?_)|refine ep (h:=?_)|refine ez (h:=?_)|refine eA (h:=?_)|refine eB (h:=?_)|refine eC (h:=?_)|refine eD (h:=?_)|(refine dS rfl ?_ (h:=?_);(exact bP))|(refine dT rfl ?_ (h:=?_);(exact bP))|fail "")
       all_goals (try rw[qh])
       all_goals (first|done|((repeat' first|(refine ab ?_;((repeat' first|exact True.intro|refine R.mk ?_ ?_);all_goals intros))|fail ""))|skip)
       all_goals first
        | (exact fg)
        | (exfalso;omega)
        | skip
     ·rw[if_neg U] at fB
      rw[if_pos ⟨rfl,.inl (by omega)⟩] at bn
      cases bn
      (repeat' first|(refine eL [0,1,4] (fB) (h:=?_))|(refine eM [0,1,4] (fB) (h:=?_))|(refine gU [0,1,4] (fB) (h:=?_))|refine bB (hq:=UZ rfl rfl rfl rfl) (h:=?_)|(refine fc ?_;((repeat' first|exact True.intro|refine R.mk ?_ ?_);all_goals intros))|refine bB (h:=?_)|refine bB (hq:=eo rfl rfl rfl ew ey rfl rfl rfl rfl) (h:=?_)|refine da (h:=?_)|refine dJ (h:=?_)|refine ep (h:=?_)|refine ez (h:=?_)|refine eA (h:=?_)|refine eB (h:=?_)|refine eC (h:=?_)|refine eD (h:=?_)|(refine dS rfl ?_ (h:=?_);(exact bP))|(refine dT rfl ?_ (h:=?_);(exact bP))|fail "")
      all_goals first
       | (exact fg)
       | (exfalso;omega)
       | skip
    ·rw[if_neg (fun h=>ow h.1),if_neg sO,if_neg sP,if_neg ow] at bn
     have aV:=aV ⟨fh,gr,oF,fin,kY,kZ,kl⟩
     rw[bn] at aV
     (repeat' first|(refine eL [0,1,4] (aV) (h:=?_))|(refine eM [0,1,4] (aV) (h:=?_))|(refine gU [0,1,4] (aV) (h:=?_))|(refine ab ?_;((repeat' first|exact True.intro|refine R.mk ?_ ?_);all_goals intros))|fail "")
     all_goals first
      | (exact fg)
      | (exfalso;omega)
      | skip
theorem G6 {c:a6} {f:bc} (h:c.Queue.length<=12):(l2 c f).1.length<=12:=by
 unfold l2
 split
 ·exact h
 ·split
  ·exact h
  ·exact ME _ _ h
theorem G5 {l:List dV} {k:Nat} {s:dE} (h:j9 l) (ag:k<l.length) (ap:bR.hJ s):j9 (l.set k { l.getD k default with Out:=s }):=fun y ai=>by
 rcases List.mem_or_eq_of_mem_set ai with ai|ai
 ·exact h y ai
 ·subst ai
  have:=h _ (cY ag)
  exact⟨this.1,this.2.1,this.2.2.1,ap⟩
theorem N3 (c:a6) (l:List eN) (now:Int) (fj:j9 c.aO) (aq:c.aO.length<=1000000) (hq:c.Queue.length<=12) (ix:l.length<=1000000) (aw:∀ y,y ∈ l->jg y)
  (C:a6) (e:Int) (bn:h1 now c l=(C,e)) (H:List (Nat×Option aY)) (ak:(e=0/\H=[(0,some (.box 116 (gp C (.own 1) (.own 3)))),(1,some (.row 134 16 (C.aO.map cv))),(3,some (.row 111 7 (C.Queue.map aW)))])\/(e≠0/\H=[(0,some (.box 116 (gp C (.own 1) (.own 3))))])) :
  cU Tryz.prog 112 [.ptr 0 0 0 0,.ro (l.map bY),.lit (.int .i64 now)] [(0,some (.box 116 (gp c (.own 1) (.own 2)))),(1,some (.row 134 16 (c.aO.map cv))),(2,some (.row 111 7 (c.Queue.map aW)))] 3
   (.lit (.int .i64 e)) H 4:=by
 obtain ⟨aA,space,bp,bU,credit,ids,cH,opened,bE,b3,queue,last,cL,dw,code⟩:=c
 unfold gp
 dsimp only at *
 refine gG ae Tryz.func112 rfl ae (by rfl) ?_
 (repeat' first|(refine ab ?_;((repeat' first|exact True.intro|refine R.mk ?_ ?_);all_goals intros))|fail "")
 refine b2 (fun x:Nat×fM×List dV×List bc=>⟨[(0,.ptr 0 0 0 0),(2,.lit (.int .i64 now)),(13,.ro (l.map bY)),(14,.lit (.int .i64 l.length)),(15,.lit (.int .i64 x.1))],[(0,some (.box 116 [.lit (.bool aA),.lit (.int .i64 space.Next),.ro (space.az.map bY),.lit (.int .i64 space.dn),.ro (space.cg.map aD),.ro (space.b7.map encI),.lit (.int .i64 x.2.1.cK),.lit (.int .i64 x.2.1.eE),.lit (.int .i64 x.2.1.dW),.lit (.int .i64 x.2.1.Since),.lit (.int .i64 bU.Max),.lit (.int .i64 bU.cm),.lit (.int .i64 credit.Max),.lit (.int .i64 credit.cm),.lit (.int .i64 ids),.lit (.int .i64 cH),.lit (.int .i64 opened),.own 1,.lit (.bool b3),.own 3,.lit (.int .i64 last),.lit (.int .i64 cL),.lit (.bool dw),.lit (.int .i64 code)])),(1,some (.row 134 16 (x.2.2.1.map cv))),(3,some (.row 111 7 (x.2.2.2.map aW)))],4,Tryz.f112.ntmps⟩)
  (fun x=>x.1<=l.length/\h1 now ⟨aA,space,x.2.1,bU,credit,ids,cH,opened,x.2.2.1,b3,x.2.2.2,last,cL,dw,code⟩ (l.drop x.1)=(C,e)/\j9 x.2.2.1/\x.2.2.1.length=bE.length/\x.2.2.2.length<=12) (fun x=>l.length - x.1) (0,bp,bE,queue) ⟨Nat.zero_le _,bn,fj,rfl,hq⟩ (by first|exact pO 2|skip) ?_
 clear bn fj hq
 rintro ⟨k,p,ck,q⟩ ⟨ag,hm,fj,fW,hq⟩
 dsimp only at *
 by_cases aJ:k<l.length
 ·rw[drop_cons aJ] at hm
  unfold h1 at hm
  have nj:=aw _ (cY aJ)
  have fS:=Q7 p (min (l.getD k default).fm p.dW) (l.getD k default).Time now
  unfold ss nR at hm
  dsimp only at hm
  generalize ov p (min (l.getD k default).fm p.dW) (l.getD k default).Time now=sQ at *
  obtain ⟨c7,sM⟩:=sQ
  dsimp only at *
  have jC:(l.getD k default).Frames.length<=1000000000000000:=by have:=nj.2.2.2.1;omega
  have rk:=nj.2.2.2.2
  generalize wu:jh ⟨aA,space,c7,bU,credit,ids,cH,opened,ck,b3,q,last,cL,dw,code⟩ (l.getD k default).Frames=DD at *
  obtain ⟨DE,aN⟩:=DD
  (repeat' first|(refine ar (fS) (h:=?_))|(refine au (fS) (h:=?_))|(refine ab ?_;((repeat' first|exact True.intro|refine R.mk ?_ ?_);all_goals intros))|fail "")
  refine b2 (fun x:Nat×List dV×List bc=>⟨[(0,.ptr 0 0 0 0),(2,.lit (.int .i64 now)),(13,.ro (l.map bY)),(14,.lit (.int .i64 l.length)),(15,.lit (.int .i64 k)),(45,.ro ((l.getD k default).Frames.map aW)),(46,.lit (.int .i64 (l.getD k default).Frames.length)),(47,.lit (.int .i64 x.1))],[(0,some (.box 116 [.lit (.bool aA),.lit (.int .i64 space.Next),.ro (space.az.map bY),.lit (.int .i64 space.dn),.ro (space.cg.map aD),.ro (space.b7.map encI),.lit (.int .i64 c7.cK),.lit (.int .i64 c7.eE),.lit (.int .i64 c7.dW),.lit (.int .i64 c7.Since),.lit (.int .i64 bU.Max),.lit (.int .i64 bU.cm),.lit (.int .i64 credit.Max),.lit (.int .i64 credit.cm),.lit (.int .i64 ids),.lit (.int .i64 cH),.lit (.int .i64 opened),.own 1,.lit (.bool b3),.own 3,.lit (.int .i64 last),.lit (.int .i64 cL),.lit (.bool dw),.lit (.int .i64 code)])),(1,some (.row 134 16 (x.2.1.map cv))),(3,some (.row 111 7 (x.2.2.map aW)))],4,Tryz.f112.ntmps⟩)
   (fun x=>x.1<=(l.getD k default).Frames.length/\jh ⟨aA,space,c7,bU,credit,ids,cH,opened,x.2.1,b3,x.2.2,last,cL,dw,code⟩ ((l.getD k default).Frames.drop x.1)=(DE,aN)/\j9 x.2.1/\x.2.1.length=bE.length/\x.2.2.length<=12) (fun x=>(l.getD k default).Frames.length - x.1) (0,ck,q) ⟨Nat.zero_le _,wu,fj,fW,hq⟩ gf ?_
  clear wu fj fW hq fS
  rintro ⟨j,ck,q⟩ ⟨ah,ei,fj,fW,hq⟩
  dsimp only at *
  by_cases jy:j<(l.getD k default).Frames.length
  ·rw[drop_cons jy] at ei
   unfold jh at ei
   have qf:=rk _ (cY jy)
   generalize (l.getD k default).Frames=dA at *
   have fB:=MD ⟨aA,space,c7,bU,credit,ids,cH,opened,ck,b3,q,last,cL,dw,code⟩ (dA.getD j default).Id kU
   have hle:=q1 ck (dA.getD j default).Id
   unfold jz l4 at ei
   dsimp only at ei fB
   unfold gp yE at fB
   by_cases sh:(dA.getD j default).Kind=8
   ·rw[if_pos sh] at ei
    by_cases U:eb ck (dA.getD j default).Id<ck.length
    ·rw[if_pos U] at ei
     rw[if_pos U] at fB
     have eT:eb ck (dA.getD j default).Id<(ck.map cv).length:=by rw[List.length_map];exact U
     have ga:=je cv U
     have iV:=fj _ (cY U)
     have lK:=bR.vP _ iV.2.2.2
     have oG:=O3 (ck.getD (eb ck (dA.getD j default).Id) default).Out (dA.getD j default).bI (dA.getD j default).Data.length (dA.getD j default).Fin lK ⟨by have:=iV.2.2.2.2.2.2.1;omega,by have:=iV.2.2.2.2.2.2.2.2.1;omega⟩ qf.2.2.1 (by have:=qf.2.2.2.2.2.2;unfold aF;omega)
     have U0:=fun h=>Cw (s:=(ck.getD (eb ck (dA.getD j default).Id) default).Out) (off:=(dA.getD j default).bI) (n:=(dA.getD j default).Data.length) (fin:=(dA.getD j default).Fin) iV.2.2.2 h
     have ml:=fun s h=>G5 (s:=s) fj U h
     generalize eb ck (dA.getD j default).Id=n at *
     generalize ld (ck.getD n default).Out (dA.getD j default).bI (dA.getD j default).Data.length (dA.getD j default).Fin=wm at *
     obtain ⟨S,le⟩:=wm
     unfold uj at oG
     dsimp only at *
     have qq:(ck.map cv).set n (setAt 8 (fe S) (bH (ck.map cv) n))=(ck.set n { ck.getD n default with Out:=S }).map cv:=by
      rw[ga,List.map_set];rfl
     by_cases rv:le=0
     ·subst rv
      rw[if_pos rfl,if_pos rfl] at ei
      unfold l3 at ei
      dsimp only at ei
      (repeat' first|(refine eL [0,1,3] (fB) (h:=?_))|(refine eM [0,1,3] (fB) (h:=?_))|(refine gU [0,1,3] (fB) (h:=?_))|refine bB (hq:=MF rfl rfl rfl rfl) (h:=?_)|(refine fc ?_;((repeat' first|exact True.intro|refine R.mk ?_ ?_);all_goals intros))|refine bB (h:=?_)|refine bB (hq:=eo rfl rfl rfl ew ey rfl rfl rfl rfl) (h:=?_)|refine da (h:=?_)|refine dJ (h:=?_)|refine ep (h:=?_)|refine ez (h:=?_)|refine eA (h:=?_)|refine eB (h:=?_)|refine eC (h:=?_)|refine eD (h:=?_)|(refine dS rfl ?_ (h:=?_);(exact bP))|(refine dT rfl ?_ (h:=?_);(exact bP))|fail "")
      all_goals first
       | (refine pN [(18,1)] ?_;(repeat' first|(refine ar (oG) (h:=?_))|(refine au (oG) (h:=?_))|refine dJ (hq:=fun N=>mn rfl rfl rfl rfl (im rfl eT rfl ga) (Nat.le_of_ble_eq_true rfl)) (h:=?_)|(refine mG (r:=(ck.set n { ck.getD n default with Out:=S }).map cv) ?_ ?_ (h:=?_);(exact hQ);(focus ((exact qq))))|(refine mH (r:=(ck.set n { ck.getD n default with Out:=S }).map cv) ?_ ?_ (h:=?_);(exact hQ);(focus ((exact qq))))|(refine fc ?_;((repeat' first|exact True.intro|refine R.mk ?_ ?_);all_goals intros))|refine bB (h:=?_)|refine bB (hq:=eo rfl rfl rfl ew ey rfl rfl rfl rfl) (h:=?_)|refine da (h:=?_)|refine dJ (h:=?_)|refine ep (h:=?_)|refine ez (h:=?_)|refine eA (h:=?_)|refine eB (h:=?_)|refine eC (h:=?_)|refine eD (h:=?_)|(refine dS rfl ?_ (h:=?_);(exact bP))|(refine dT rfl ?_ (h:=?_);(exact bP))|fail ""))
       | skip
      all_goals first
       | (refine ⟨(j+1,ck.set n { ck.getD n default with Out:=S },q),?_,?_,?_⟩;rotate_left 2;(exact ax);(exact bV);(focus (exact⟨jy,ei,ml S (U0 rfl),(by rw[List.length_set];exact fW),hq⟩)))
       | (exfalso;omega)
       | skip
     ·rw[if_neg rv] at ei
      dsimp only at ei
      rw[if_neg rv] at ei
      cases ei
      rw[if_neg rv] at hm
      cases hm
      rcases ak with⟨af,_⟩ | ⟨_,rfl⟩
      ·exact absurd af rv
      ·(repeat' first|(refine eL [0,1,3] (fB) (h:=?_))|(refine eM [0,1,3] (fB) (h:=?_))|(refine gU [0,1,3] (fB) (h:=?_))|refine bB (hq:=MF rfl rfl rfl rfl) (h:=?_)|(refine fc ?_;((repeat' first|exact True.intro|refine R.mk ?_ ?_);all_goals intros))|refine bB (h:=?_)|refine bB (hq:=eo rfl rfl rfl ew ey rfl rfl rfl rfl) (h:=?_)|refine da (h:=?_)|refine dJ (h:=?_)|refine ep (h:=?_)|refine ez (h:=?_)|refine eA (h:=?_)|refine eB (h:=?_)|refine eC (h:=?_)|refine eD (h:=?_)|(refine dS rfl ?_ (h:=?_);(exact bP))|(refine dT rfl ?_ (h:=?_);(exact bP))|fail "")
       all_goals first
        | (refine pN [(18,1)] ?_;(repeat' first|(refine ar (oG) (h:=?_))|(refine au (oG) (h:=?_))|refine dJ (hq:=fun N=>mn rfl rfl rfl rfl (im rfl eT rfl ga) (Nat.le_of_ble_eq_true rfl)) (h:=?_)|(refine mG (r:=(ck.set n { ck.getD n default with Out:=S }).map cv) ?_ ?_ (h:=?_);(exact hQ);(focus ((exact qq))))|(refine mH (r:=(ck.set n { ck.getD n default with Out:=S }).map cv) ?_ ?_ (h:=?_);(exact hQ);(focus ((exact qq))))|(refine fc ?_;((repeat' first|exact True.intro|refine R.mk ?_ ?_);all_goals intros))|refine bB (h:=?_)|refine bB (hq:=eo rfl rfl rfl ew ey rfl rfl rfl rfl) (h:=?_)|refine da (h:=?_)|refine dJ (h:=?_)|refine ep (h:=?_)|refine ez (h:=?_)|refine eA (h:=?_)|refine eB (h:=?_)|refine eC (h:=?_)|refine eD (h:=?_)|(refine dS rfl ?_ (h:=?_);(exact bP))|(refine dT rfl ?_ (h:=?_);(exact bP))|fail ""))
        | skip
       all_goals first
        | (exact fg)
        | (exfalso;omega)
        | skip
    ·rw[if_neg U] at ei
     rw[if_neg U] at fB
     rw[if_pos rfl] at ei
     unfold l3 at ei
     dsimp only at ei
     (repeat' first|(refine eL [0,1,3] (fB) (h:=?_))|(refine eM [0,1,3] (fB) (h:=?_))|(refine gU [0,1,3] (fB) (h:=?_))|refine bB (hq:=U1 rfl rfl rfl rfl) (h:=?_)|(refine fc ?_;((repeat' first|exact True.intro|refine R.mk ?_ ?_);all_goals intros))|refine bB (h:=?_)|refine bB (hq:=eo rfl rfl rfl ew ey rfl rfl rfl rfl) (h:=?_)|refine da (h:=?_)|refine dJ (h:=?_)|refine ep (h:=?_)|refine ez (h:=?_)|refine eA (h:=?_)|refine eB (h:=?_)|refine eC (h:=?_)|refine eD (h:=?_)|(refine dS rfl ?_ (h:=?_);(exact bP))|(refine dT rfl ?_ (h:=?_);(exact bP))|fail "")
     all_goals first
      | (refine ⟨(j+1,ck,q),?_,?_,?_⟩;rotate_left 2;(exact ax);(exact bV);(focus (exact⟨jy,ei,fj,fW,hq⟩)))
      | (exfalso;omega)
      | skip
   ·rw[if_neg sh] at ei
    have tN:=UX ⟨aA,space,c7,bU,credit,ids,cH,opened,ck,b3,q,last,cL,dw,code⟩ (dA.getD j default) kU hq
    have U2:=G6 (c:=⟨aA,space,c7,bU,credit,ids,cH,opened,ck,b3,q,last,cL,dw,code⟩) (f:=dA.getD j default) hq
    unfold gp at tN
    by_cases qg:ry (dA.getD j default).Kind
    ·rw[if_pos qg] at ei
     unfold ry at qg
     generalize l2 ⟨aA,space,c7,bU,credit,ids,cH,opened,ck,b3,q,last,cL,dw,code⟩ (dA.getD j default)=U3 at *
     obtain ⟨wj,wk⟩:=U3
     dsimp only at *
     by_cases rz:wk=0
     ·subst rz
      rw[if_pos rfl] at ei
      unfold l3 at ei
      dsimp only at ei
      (repeat' first|(refine eL [0,1,3] (tN) (h:=?_))|(refine eM [0,1,3] (tN) (h:=?_))|(refine gU [0,1,3] (tN) (h:=?_))|(refine ab ?_;((repeat' first|exact True.intro|refine R.mk ?_ ?_);all_goals intros))|fail "")
      all_goals first
       | (refine ⟨(j+1,ck,wj),?_,?_,?_⟩;rotate_left 2;(exact ax);(exact bV);(focus (exact⟨jy,ei,fj,fW,U2⟩)))
       | (exfalso;omega)
       | skip
     ·rw[if_neg rz] at ei
      cases ei
      rw[if_neg rz] at hm
      cases hm
      rcases ak with⟨af,_⟩ | ⟨_,rfl⟩
      ·exact absurd af rz
      ·(repeat' first|(refine eL [0,1,3] (tN) (h:=?_))|(refine eM [0,1,3] (tN) (h:=?_))|(refine gU [0,1,3] (tN) (h:=?_))|(refine ab ?_;((repeat' first|exact True.intro|refine R.mk ?_ ?_);all_goals intros))|fail "")
       all_goals first
        | (exact fg)
        | (exfalso;omega)
        | skip
    ·rw[if_neg qg] at ei
     unfold ry at qg
     rw[if_pos rfl] at ei
     unfold l3 at ei
     dsimp only at ei
     (repeat' first|(refine ab ?_;((repeat' first|exact True.intro|refine R.mk ?_ ?_);all_goals intros))|fail "")
     all_goals first
      | (refine ⟨(j+1,ck,q),?_,?_,?_⟩;rotate_left 2;(exact ax);(exact bV);(focus (exact⟨jy,ei,fj,fW,hq⟩)))
      | (exfalso;omega)
      | skip
  ·have sm:j=(l.getD k default).Frames.length:=by omega
   subst sm
   rw[List.drop_length] at ei
   unfold jh at ei
   cases ei
   rw[if_pos rfl] at hm
   (repeat' first|(refine ab ?_;((repeat' first|exact True.intro|refine R.mk ?_ ?_);all_goals intros))|fail "")
   all_goals first
    | (refine ⟨(k+1,c7,ck,q),?_,?_,?_⟩;rotate_left 2;(exact ax);(exact bV);(focus (exact⟨aJ,hm,fj,fW,hq⟩)))
    | skip
 ·have ct:k=l.length:=by omega
  subst ct
  rw[List.drop_length] at hm
  unfold h1 at hm
  cases hm
  rcases ak with⟨_,rfl⟩ | ⟨af,_⟩
  ·(repeat' first|(refine ab ?_;((repeat' first|exact True.intro|refine R.mk ?_ ?_);all_goals intros))|fail "")
   all_goals first
    | (exact fg)
    | skip
  ·exact absurd rfl af
def XQ (u:Int->Value) (x:dV):List V:=[.lit (.int .i64 x.Id),.lit (.int .i64 x.In.fN),.ro (x.In.cI.map kx),.lit (.int .i64 x.In.ig),.lit (.int .i64 x.In.cK),.lit (u x.Id),.lit (.bool x.Over),.lit (.bool x.Cut),.ro (x.Out.Data.map aC),.lit (.bool x.Out.Fin),.lit (.int .i64 x.Out.Next),.lit (.int .i64 x.Out.Max),.ro (x.Out.cp.map aD),.ro (x.Out.dF.map aD),.lit (.bool x.Out.lH),.lit (.bool x.Out.Over)]
end
end Go.Proofs.YtendheafcbickaaGreat
