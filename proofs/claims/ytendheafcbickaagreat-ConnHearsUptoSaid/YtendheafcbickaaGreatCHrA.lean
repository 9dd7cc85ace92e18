
import Derived.Test.YtendheafcbickaaGreatCTkB
set_option linter.unusedVariables false
set_option linter.unusedSimpArgs false
set_option maxHeartbeats 16000000
namespace Go.Proofs.YtendheafcbickaaGreat
set_option maxRecDepth 100000
attribute [local irreducible] cE a6 bu GStep Fn cg bf cA
def aV (u:Int->Value) (x:cS):List V:=[I x.Id,I x.In.bQ,.ro (x.In.aD.map b5),I x.In.c8,I x.In.bj,.lit (u x.Id),ab x.Over,ab x.Cut,.ro (x.Out.Data.map bm),ab x.Out.Fin,I x.Out.Next,I x.Out.Max,.ro (x.Out.cO.map aB),.ro (x.Out.cI.map aB),ab x.Out.fo,ab x.Out.Over]
theorem Ta (u:Int->Value) (id:Int) (h:u id = .slice none 0 0):∀ j,j<(mH id).length->qb (bw (mH id) j) (bw (aV u (jj id)) j):=by
 intro j ad;have ad:j<16:=ad
 match j,ad with
 | 0,_|1,_|3,_|4,_|6,_|7,_|9,_|10,_|11,_|14,_|15,_=>exact .inl rfl
 | 5,_=>exact .inl (show V.lit (.slice none 0 0)=V.lit (u id) by rw[h])
 | 2,_|8,_|12,_|13,_=>exact .inr ⟨rfl,rfl⟩
 | n+16,h=>omega
theorem Tb (u:Int->Value) (c:aG) (ao:c.aq.length<=1000000) (ae:aE c.cN) (LV:c.cN<=4611686018427387904) (hu:u c.cN = .slice none 0 0) :
  cA Tryz.prog 115 [.ptr 0 0 0 0] [(0,some (.box 116 (a1 c (.own 1) (.own 2)))),(1,some (.row 134 16 (c.aq.map (aV u)))),(2,some (.row 111 7 (c.Queue.map aO)))] 3
   (.ptr 3 c.aq.length 16 0) [(0,some (.box 116 (a1 (kJ c) (.own 3) (.own 2)))),(3,some (.row 134 16 ((kJ c).aq.map (aV u)))),(2,some (.row 111 7 (c.Queue.map aO)))] 4:=by
 have J:=Tc 300;rw[ah (by omega),ah (by omega)] at J;unfold aE at ae;have hlen:(c.aq++[jj c.cN]).length=c.aq.length+1:=by simp
 have fL:IntKind.i64.wrap ((((c.aq++[jj c.cN]).map (aV u)).length:Int) - 1)=((c.aq.length:Nat):Int):=by
  rw[bY,hlen,IntKind.wrap_i64];omega
 have cf:c.aq.length<((c.aq++[jj c.cN]).map (aV u)).length:=by rw[bY,hlen];omega
 unfold a1 kJ;dsimp only;refine aH Tryz.func115 ?_;(repeat' first|refine bh J ?_|(refine kI (r:=c.aq.map (aV u)++[mH c.cN]) ?_ ?_ ?_ ?_ (h:=?_);(exact s6);(exact dm);(exact dp);(exact dq))|(refine k9 (r:=c.aq.map (aV u)++[mH c.cN]) ?_ ?_ ?_ ?_ (h:=?_);(exact s6);(exact dm);(exact dp);(exact dq))|(refine la (r:=c.aq.map (aV u)++[mH c.cN]) ?_ ?_ ?_ ?_ (h:=?_);(exact s6);(exact dm);(exact dp);(exact dq))|(refine kl (r:=c.aq.map (aV u)++[mH c.cN]) ?_ ?_ ?_ ?_ (h:=?_);(exact s6);(exact dm);(exact dp);(exact dq))|(refine fI 3 ?_;(and_intros <;> intros))|fail);refine gH (bq:=⟨[(0,.ptr 0 0 0 0)],[(0,some (.box 116 [ab c.Client,I c.aQ.Next,.ro (c.aQ.aR.map bC),I c.aQ.c9,.ro (c.aQ.cD.map aB),.ro (c.aQ.bI.map encI),I c.cy.bj,I c.cy.dy,I c.cy.c0,I c.cy.Since,I c.di.Max,I c.di.bG,I c.eh.Max,I c.eh.bG,I c.gQ,I c.gR,I c.cN,.own 3,ab c.fT,.own 2,I c.dT,I c.gP,ab c.fj,I c.Code])),(2,some (.row 111 7 (c.Queue.map aO))),(3,some (.row 134 16 (c.aq.map (aV u)++[mH c.cN])))],4,Tryz.f115.ntmps⟩) fP ?_;refine gH (LW (e:=134) (s:=16) (l:=c.aq.map (aV u)) (c:=mH c.cN) (hM:=aV u (jj c.cN)) (id:=3) rfl (Ta u c.cN hu) rfl) ?_;rw[show c.aq.map (aV u)++[aV u (jj c.cN)]=(c.aq++[jj c.cN]).map (aV u) from (by rw[ix];rfl)];(repeat' first|(refine fI 4 ?_;(and_intros <;> intros))|fail);refine gH (bq:=⟨[(0,.ptr 0 0 0 0)],[(0,some (.box 116 [ab c.Client,I c.aQ.Next,.ro (c.aQ.aR.map bC),I c.aQ.c9,.ro (c.aQ.cD.map aB),.ro (c.aQ.bI.map encI),I c.cy.bj,I c.cy.dy,I c.cy.c0,I c.cy.Since,I c.di.Max,I c.di.bG,I c.eh.Max,I c.eh.bG,I c.gQ,I c.gR,I (c.cN+1),.own 3,ab c.fT,.own 2,I c.dT,I c.gP,ab c.fj,I c.Code])),(2,some (.row 111 7 (c.Queue.map aO))),(3,some (.row 134 16 ((c.aq++[jj c.cN]).map (aV u))))],4,Tryz.f115.ntmps⟩) fP ?_;(repeat' first|refine da (hq:=fun N=>Ci rfl rfl rfl rfl fL cf rfl rfl)|(refine eF ?_;(and_intros <;> intros))|refine dS ?_|fail)
 all_goals rw[fL,Int.toNat_natCast]
 all_goals first|exact nY|skip
theorem yt (u:Int->Value) (c:aG) (id:Int) (ao:c.aq.length<=1000000) :
  cA Tryz.prog 99 [.ptr 0 0 0 0,I id] [(0,some (.box 116 (a1 c (.own 1) (.own 2)))),(1,some (.row 134 16 (c.aq.map (aV u)))),(2,some (.row 111 7 (c.Queue.map aO)))] 3
   (s7 c.aq id) [(0,some (.box 116 (a1 c (.own 1) (.own 2)))),(1,some (.row 134 16 (c.aq.map (aV u)))),(2,some (.row 111 7 (c.Queue.map aO)))] 3:=by
 have hle:=q7 c.aq id;generalize iN:s7 c.aq id=R;unfold s7 at iN;unfold a1;refine aH Tryz.func99 ?_;(try refine ay ?_;and_intros <;> intros);refine cv (fun k:Nat=>⟨[(0,.ptr 0 0 0 0),(1,I id),(11,I c.aq.length),(12,I k)],[(0,some (.box 116 [ab c.Client,I c.aQ.Next,.ro (c.aQ.aR.map bC),I c.aQ.c9,.ro (c.aQ.cD.map aB),.ro (c.aQ.bI.map encI),I c.cy.bj,I c.cy.dy,I c.cy.c0,I c.cy.Since,I c.di.Max,I c.di.bG,I c.eh.Max,I c.eh.bG,I c.gQ,I c.gR,I c.cN,.own 1,ab c.fT,.own 2,I c.dT,I c.gP,ab c.fj,I c.Code])),(1,some (.row 134 16 (c.aq.map (aV u)))),(2,some (.row 111 7 (c.Queue.map aO)))],3,Tryz.f99.ntmps⟩)
  (fun k=>k<=b7 c.aq id) (fun k=>c.aq.length - k) 0 (cm _) fP ?_
 intro k ag;by_cases au:k<c.aq.length
 ·by_cases he:(c.aq.getD k default).Id=id
  ·have U:=LX au ag he;rw[U,al au] at iN;subst iN;(try refine ay ?_;and_intros <;> intros)
   all_goals first|exact nY|skip
  ·have U:=LY au ag he;(try refine ay ?_;and_intros <;> intros)
   all_goals first
    | (exact⟨k+1,(by omega),U,ba⟩)
    | skip
 ·have ca:k=c.aq.length:=by omega
  rw[ah (by omega)] at iN;subst iN;subst ca;(try refine ay ?_;and_intros <;> intros)
  all_goals first|exact nY|skip
theorem wy (u:Int->Value) (c:aG) (f:bo) (ao:c.Queue.length<=12) :
  cA Tryz.prog 134 [.ptr 0 0 0 0,.agg (aO f)] [(0,some (.box 116 (a1 c (.own 1) (.own 2)))),(1,some (.row 134 16 (c.aq.map (aV u)))),(2,some (.row 111 7 (c.Queue.map aO)))] 3
   (I (fK c.Queue f).2) [(0,some (.box 116 (a1 c (.own 1) (.own 3)))),(1,some (.row 134 16 (c.aq.map (aV u)))),(3,some (.row 111 7 ((fK c.Queue f).1.map aO)))] 4:=by
 have hle:=F7 c.Queue f;have cR:∀ i,i<c.Queue.length->bb (c.Queue.map aO) i=aO (c.Queue.getD i default):=fun i hi=>gV aO hi
 generalize ap:fK c.Queue f=R;unfold fK at ap;unfold a1;refine aH Tryz.func134 ?_;(try refine ay ?_;and_intros <;> intros);refine cv (fun k:Nat=>⟨[(0,.ptr 0 0 0 0),(3,.ptr 3 0 0 0),(11,.own 4),(12,I c.Queue.length),(13,I k)],[(0,some (.box 116 (a1 c (.own 1) (.own 4)))),(1,some (.row 134 16 (c.aq.map (aV u)))),(3,some (.box 111 (aO f))),(4,some (.row 111 7 (c.Queue.map aO)))],5,Tryz.f134.ntmps⟩)
  (fun k=>k<=kK c.Queue f) (fun k=>c.Queue.length - k) 0 (cm _) (by first|exact jg 2|skip) ?_
 intro k ag;unfold a1;by_cases au:k<c.Queue.length
 ·by_cases he:rS f (c.Queue.getD k default)
  ·have U:=LZ au ag he;rw[U,al au] at ap;subst ap;obtain ⟨aI,a7,cC⟩:=he;(refine L0 ?_;and_intros <;> intros)
   all_goals first|exact ed|skip
  ·have U:=L1 au ag he;unfold rS at he;(try refine ay ?_;and_intros <;> intros)
   all_goals first
    | (exact⟨k+1,(by omega),U,ba⟩)
    | (exfalso;omega)
    | skip
 ·have ca:k=c.Queue.length:=by omega
  rw[ah (by omega)] at ap;subst ca;by_cases lx:c.Queue.length=12
  ·rw[al lx] at ap;subst ap;(try refine ay ?_;and_intros <;> intros)
   all_goals first|exact ed|skip
  ·rw[ah lx] at ap;subst ap;(refine L2 ?_;and_intros <;> intros)
   all_goals first|exact ed|skip
theorem Td (u:Int->Value) (c:aG) (f:bo) (ao:c.aq.length<=1000000) (hq:c.Queue.length<=12) :
  cA Tryz.prog 233 [.ptr 0 0 0 0,.agg (aO f)] [(0,some (.box 116 (a1 c (.own 1) (.own 2)))),(1,some (.row 134 16 (c.aq.map (aV u)))),(2,some (.row 111 7 (c.Queue.map aO)))] 3
   (I (nl c f).2) [(0,some (.box 116 (a1 c (.own 1) (.own 3)))),(1,some (.row 134 16 (c.aq.map (aV u)))),(3,some (.row 111 7 ((nl c f).1.map aO)))] 4:=by
 have aY:=fun g=>wy u c g hq
 have c1:=yt u c f.Id ao;have hle:=q7 c.aq f.Id;generalize ap:nl c f=R;obtain ⟨yu,yv⟩:=R;unfold nl uJ at ap;unfold s7 at c1;unfold mI at ap;unfold a1 at *;obtain ⟨aA,space,bg,bc,bp,ids,bJ,opened,aC,bF,queue,last,bK,bS,code⟩:=c;obtain ⟨cF,cn,cL,fin,dj,dI,dh⟩:=f;unfold uK at ap;dsimp only at *;refine aH Tryz.func233 ?_;(try refine ay ?_;and_intros <;> intros);refine cv (fun k:Nat=>⟨[(0,.ptr 0 0 0 0),(3,.ptr 3 0 0 0),(12,.own 4),(13,I queue.length),(14,I k)],[(0,some (.box 116 [ab aA,I space.Next,.ro (space.aR.map bC),I space.c9,.ro (space.cD.map aB),.ro (space.bI.map encI),I bg.bj,I bg.dy,I bg.c0,I bg.Since,I bc.Max,I bc.bG,I bp.Max,I bp.bG,I ids,I bJ,I opened,.own 1,ab bF,.own 4,I last,I bK,ab bS,I code])),(1,some (.row 134 16 (aC.map (aV u)))),(3,some (.box 111 [I cF,I cn,I cL,ab fin,I dj,.ro (dI.map aB),.ro (dh.map bm)])),(4,some (.row 111 7 (queue.map aO)))],5,Tryz.f233.ntmps⟩)
  (fun k=>k<=queue.length /\ ∀ i,i<k -> ¬ ((queue.getD i default).Kind=cF/\(queue.getD i default).Id=cn)) (fun k=>queue.length - k) 0 ⟨cm _,fun i h=>by omega⟩ (by first|exact jg 2|skip) ?_
 rintro k ⟨ag,ia⟩;by_cases au:k<queue.length
 ·by_cases he:(queue.getD k default).Kind=cF/\(queue.getD k default).Id=cn
  ·rw[al (j6 ⟨k,au,he⟩)] at ap
   cases ap
   obtain ⟨aI,a7⟩:=he;(try refine ay ?_;and_intros <;> intros)
   all_goals first|exact ed|skip
  ·(try refine ay ?_;and_intros <;> intros)
   all_goals first
    | (exact⟨k+1,(by omega),L3,ba⟩)
    | (exfalso;omega)
    | skip
 ·have ca:k=queue.length:=by omega
  subst ca;have yw:¬ F8 queue ⟨cF,cn,cL,fin,dj,dI,dh⟩:=fun ⟨i,hi,e⟩=>ia i hi e
  rw[ah (by rw[jM yw];exact iS)] at ap;clear ia au ag yw;by_cases uL:cF=16
  ·subst uL;rw[ah (fun h=>by omega),al rfl] at ap;have aY:=aY ⟨16,cn,bc.Max,fin,dj,dI,dh⟩;rw[ap] at aY;(refine F9 ?_;and_intros <;> intros)
   all_goals first|exact ed|skip
  ·by_cases uM:cF=18
   ·subst uM;rw[ah (fun h=>by omega),ah (by omega),al rfl] at ap;have aY:=aY ⟨18,cn,bJ,fin,dj,dI,dh⟩;rw[ap] at aY;(refine F9 ?_;and_intros <;> intros)
    all_goals first|exact ed|skip
   ·by_cases qc:cF=17
    ·subst qc;rw[ah uL,ah uM,al rfl] at ap;by_cases U:b7 aC cn<aC.length
     ·rw[al U] at c1;have cf:b7 aC cn<(aC.map (aV u)).length:=by rw[bY];exact U
      have cR:=gV (aV u) U;generalize b7 aC cn=n at *
      cases h8:(aC.getD n default).Over
      ·rw[ah (fun h=>by rcases h.2 with h|h;omega;(rw[h8] at h;cases h))] at ap;have aY:=aY ⟨17,cn,(aC.getD n default).In.bj,fin,dj,dI,dh⟩;rw[ap] at aY;(repeat' first|(refine dL [0,1,4] (c1) (h:=?_))|(refine fi [0,1,4] (c1) (h:=?_))|(refine gd [0,1,4] (c1) (h:=?_))|refine cb (hq:=j5 rfl rfl rfl rfl) (h:=?_)|(refine eF ?_;(and_intros <;> intros))|refine dS ?_|fail)
       all_goals (try rw[h8])
       all_goals (first|done|((repeat' first|(refine dL [0,1,4] (aY) (h:=?_))|(refine fi [0,1,4] (aY) (h:=?_))|(refine gd [0,1,4] (aY) (h:=?_))|(refine ay ?_;(and_intros <;> intros))|fail))|skip)
       all_goals first|exact ed|skip
      ·rw[al ⟨rfl,.inr h8⟩] at ap
       cases ap
       (repeat' first|(refine dL [0,1,4] (c1) (h:=?_))|(refine fi [0,1,4] (c1) (h:=?_))|(refine gd [0,1,4] (c1) (h:=?_))|refine cb (hq:=j5 rfl rfl rfl rfl) (h:=?_)|(refine eF ?_;(and_intros <;> intros))|refine dS ?_|fail)
       all_goals (try rw[h8])
       all_goals (first|done|((try refine ay ?_;and_intros <;> intros))|skip)
       all_goals first|exact ed|skip
     ·rw[ah U] at c1;rw[al ⟨rfl,.inl (by omega)⟩] at ap
      cases ap
      (repeat' first|(refine dL [0,1,4] (c1) (h:=?_))|(refine fi [0,1,4] (c1) (h:=?_))|(refine gd [0,1,4] (c1) (h:=?_))|refine cb (hq:=k6 rfl rfl rfl rfl) (h:=?_)|(refine eF ?_;(and_intros <;> intros))|refine dS ?_|fail)
      all_goals first|exact ed|skip
    ·rw[ah (fun h=>qc h.1),ah uL,ah uM,ah qc] at ap;have aY:=aY ⟨cF,cn,cL,fin,dj,dI,dh⟩;rw[ap] at aY;(refine F9 ?_;and_intros <;> intros)
     all_goals first|exact ed|skip
theorem Te (u:Int->Value) (c:aG) (l:List eN) (now:Int) (fG:mh c.aq) (ao:c.aq.length<=1000000) (hq:c.Queue.length<=12) (hI:l.length<=1048576) (ar:∀ y,y ∈ l->ji y) (C:aG) (e:Int) (ap:jN now c l=(C,e)) (H:List (Nat×Option aT)) (hH:(e=0/\H=[(0,some (.box 116 (a1 C (.own 1) (.own 3)))),(1,some (.row 134 16 (C.aq.map (aV u)))),(3,some (.row 111 7 (C.Queue.map aO)))])\/(e≠0/\H=[(0,some (.box 116 (a1 C (.own 1) (.own 3))))])) :
  cA Tryz.prog 112 [.ptr 0 0 0 0,.ro (l.map bC),I now] [(0,some (.box 116 (a1 c (.own 1) (.own 2)))),(1,some (.row 134 16 (c.aq.map (aV u)))),(2,some (.row 111 7 (c.Queue.map aO)))] 3
   (I e) H 4:=by
 obtain ⟨aA,space,bg,bc,bp,ids,bJ,opened,aC,bF,queue,last,bK,bS,code⟩:=c;unfold a1;dsimp only at *;refine aH Tryz.func112 ?_;(try refine ay ?_;and_intros <;> intros);refine cv (fun x:Nat×gA×List cS×List bo=>⟨[(0,.ptr 0 0 0 0),(2,I now),(13,.ro (l.map bC)),(14,I l.length),(15,I x.1)],[(0,some (.box 116 [ab aA,I space.Next,.ro (space.aR.map bC),I space.c9,.ro (space.cD.map aB),.ro (space.bI.map encI),I x.2.1.bj,I x.2.1.dy,I x.2.1.c0,I x.2.1.Since,I bc.Max,I bc.bG,I bp.Max,I bp.bG,I ids,I bJ,I opened,.own 1,ab bF,.own 3,I last,I bK,ab bS,I code])),(1,some (.row 134 16 (x.2.2.1.map (aV u)))),(3,some (.row 111 7 (x.2.2.2.map aO)))],4,Tryz.f112.ntmps⟩)
  (fun x=>x.1<=l.length/\jN now ⟨aA,space,x.2.1,bc,bp,ids,bJ,opened,x.2.2.1,bF,x.2.2.2,last,bK,bS,code⟩ (l.drop x.1)=(C,e)/\mh x.2.2.1/\x.2.2.1.length=aC.length/\x.2.2.2.length<=12) (fun x=>l.length - x.1) (0,bg,aC,queue) ⟨cm _,ap,fG,rfl,hq⟩ (by first|exact jg 2|skip) ?_
 clear ap fG hq;rintro ⟨k,p,a8,q⟩ ⟨ag,hm,fG,hK,hq⟩;dsimp only at *;by_cases au:k<l.length
 ·rw[drop_cons au] at hm;unfold jN at hm;have oL:=ar _ (cc au);have iN:=Tf p (min (l.getD k default).hG p.c0) (l.getD k default).Time now;unfold rT kL at hm;dsimp only at hm;generalize qd p (min (l.getD k default).hG p.c0) (l.getD k default).Time now=uN at *;obtain ⟨db,uO⟩:=uN;dsimp only at *;have lB:(l.getD k default).Frames.length<=1000000000000000:=by have:=oL.2.2.2.1;omega
  have uP:=oL.2.2.2.2;generalize qe:j7 ⟨aA,space,db,bc,bp,ids,bJ,opened,a8,bF,q,last,bK,bS,code⟩ (l.getD k default).Frames=uQ at *;obtain ⟨jk,a7⟩:=uQ;(refine bH iN ?_;and_intros <;> intros);refine cv (fun x:Nat×List cS×List bo=>⟨[(0,.ptr 0 0 0 0),(2,I now),(13,.ro (l.map bC)),(14,I l.length),(15,I k),(45,.ro ((l.getD k default).Frames.map aO)),(46,I (l.getD k default).Frames.length),(47,I x.1)],[(0,some (.box 116 [ab aA,I space.Next,.ro (space.aR.map bC),I space.c9,.ro (space.cD.map aB),.ro (space.bI.map encI),I db.bj,I db.dy,I db.c0,I db.Since,I bc.Max,I bc.bG,I bp.Max,I bp.bG,I ids,I bJ,I opened,.own 1,ab bF,.own 3,I last,I bK,ab bS,I code])),(1,some (.row 134 16 (x.2.1.map (aV u)))),(3,some (.row 111 7 (x.2.2.map aO)))],4,Tryz.f112.ntmps⟩)
   (fun x=>x.1<=(l.getD k default).Frames.length/\j7 ⟨aA,space,db,bc,bp,ids,bJ,opened,x.2.1,bF,x.2.2,last,bK,bS,code⟩ ((l.getD k default).Frames.drop x.1)=(jk,a7)/\mh x.2.1/\x.2.1.length=aC.length/\x.2.2.length<=12) (fun x=>(l.getD k default).Frames.length - x.1) (0,a8,q) ⟨cm _,qe,fG,hK,hq⟩ fP ?_
  clear qe fG hK hq iN;rintro ⟨j,a8,q⟩ ⟨ad,bL,fG,hK,hq⟩;dsimp only at *;by_cases fh:j<(l.getD k default).Frames.length
  ·rw[drop_cons fh] at bL;unfold j7 at bL;have gw:=uP _ (cc fh);generalize (l.getD k default).Frames=cY at *;have c1:=yt u ⟨aA,space,db,bc,bp,ids,bJ,opened,a8,bF,q,last,bK,bS,code⟩ (cY.getD j default).Id b4;have hle:=q7 a8 (cY.getD j default).Id;unfold iV mI at bL;dsimp only at bL c1;unfold a1 s7 at c1;by_cases ib:(cY.getD j default).Kind=8
   ·rw[al ib] at bL;by_cases U:b7 a8 (cY.getD j default).Id<a8.length
    ·rw[al U] at bL;rw[al U] at c1;have cf:b7 a8 (cY.getD j default).Id<(a8.map (aV u)).length:=by rw[bY];exact U
     have cR:=gV (aV u) U;have nk:=fG _ (cc U);have Ga:=bT.uF _ nk.2.2.2;have nm:=Tg (a8.getD (b7 a8 (cY.getD j default).Id) default).Out (cY.getD j default).aP (cY.getD j default).Data.length (cY.getD j default).Fin Ga ⟨by have:=nk.2.2.2.2.2.2.1;omega,by have:=nk.2.2.2.2.2.2.2.2.1;omega⟩ gw.2.2.1 (by have:=gw.2.2.2.2.2.2;unfold aE;omega);have Gb:=fun h=>Gc (s:=(a8.getD (b7 a8 (cY.getD j default).Id) default).Out) (off:=(cY.getD j default).aP) (n:=(cY.getD j default).Data.length) (fin:=(cY.getD j default).Fin) nk.2.2.2 h
     have mi:=fun s h=>L4 (s:=s) fG U h
     generalize b7 a8 (cY.getD j default).Id=n at *;generalize mj (a8.getD n default).Out (cY.getD j default).aP (cY.getD j default).Data.length (cY.getD j default).Fin=rU at *;obtain ⟨S,le⟩:=rU;unfold pv at nm;dsimp only at *;have rV:(a8.map (aV u)).set n (setAt 8 (fc S) (bb (a8.map (aV u)) n))=(a8.set n { a8.getD n default with Out:=S }).map (aV u):=by
      rw[cR,q3];rfl
     by_cases kM:le=0
     ·subst kM;rw[al rfl,al rfl] at bL;unfold ml at bL;dsimp only at bL;(repeat' first|(refine dL [0,1,3] (c1) (h:=?_))|(refine fi [0,1,3] (c1) (h:=?_))|(refine gd [0,1,3] (c1) (h:=?_))|refine cb (hq:=yx rfl rfl rfl rfl) (h:=?_)|(refine eF ?_;(and_intros <;> intros))|refine dS ?_|fail)
      all_goals first
       | (refine gU [(18,1)] ?_;(repeat' first|refine bh nm ?_|refine da (hq:=fun N=>ep rfl rfl rfl rfl (pw rfl cf rfl cR) (bM rfl)) (h:=?_)|(refine lT (r:=(a8.set n { a8.getD n default with Out:=S }).map (aV u)) ?_ ?_ (h:=?_);(exact gX);(focus ((exact rV))))|(refine lU (r:=(a8.set n { a8.getD n default with Out:=S }).map (aV u)) ?_ ?_ (h:=?_);(exact gX);(focus ((exact rV))))|(refine eF ?_;(and_intros <;> intros))|refine dS ?_|fail))
       | skip
      all_goals first
       | (exact⟨(j+1,a8.set n { a8.getD n default with Out:=S },q),b4,(by exact⟨fh,bL,mi S (Gb rfl),(by rw[e1];exact hK),hq⟩),ba⟩)
       | (exfalso;omega)
       | skip
     ·rw[ah kM] at bL;dsimp only at bL;rw[ah kM] at bL
      cases bL
      rw[ah kM] at hm
      cases hm
      rcases hH with⟨ai,_⟩ | ⟨_,rfl⟩
      ·exact absurd ai kM
      ·(repeat' first|(refine dL [0,1,3] (c1) (h:=?_))|(refine fi [0,1,3] (c1) (h:=?_))|(refine gd [0,1,3] (c1) (h:=?_))|refine cb (hq:=yx rfl rfl rfl rfl) (h:=?_)|(refine eF ?_;(and_intros <;> intros))|refine dS ?_|fail)
       all_goals first
        | (refine gU [(18,1)] ?_;(repeat' first|refine bh nm ?_|refine da (hq:=fun N=>ep rfl rfl rfl rfl (pw rfl cf rfl cR) (bM rfl)) (h:=?_)|(refine lT (r:=(a8.set n { a8.getD n default with Out:=S }).map (aV u)) ?_ ?_ (h:=?_);(exact gX);(focus ((exact rV))))|(refine lU (r:=(a8.set n { a8.getD n default with Out:=S }).map (aV u)) ?_ ?_ (h:=?_);(exact gX);(focus ((exact rV))))|(refine eF ?_;(and_intros <;> intros))|refine dS ?_|fail))
        | skip
       all_goals first|exact ed|skip
    ·rw[ah U] at bL;rw[ah U] at c1;rw[al rfl] at bL;unfold ml at bL;dsimp only at bL;(repeat' first|(refine dL [0,1,3] (c1) (h:=?_))|(refine fi [0,1,3] (c1) (h:=?_))|(refine gd [0,1,3] (c1) (h:=?_))|refine cb (hq:=L5 rfl rfl rfl rfl) (h:=?_)|(refine eF ?_;(and_intros <;> intros))|refine dS ?_|fail)
     all_goals first
      | (exact⟨(j+1,a8,q),b4,⟨fh,bL,fG,hK,hq⟩,ba⟩)
      | (exfalso;omega)
      | skip
   ·rw[ah ib] at bL;have uR:=Td u ⟨aA,space,db,bc,bp,ids,bJ,opened,a8,bF,q,last,bK,bS,code⟩ (cY.getD j default) b4 hq;have Th:=L6 (c:=⟨aA,space,db,bc,bp,ids,bJ,opened,a8,bF,q,last,bK,bS,code⟩) (f:=cY.getD j default) hq;unfold a1 at uR;by_cases rW:s8 (cY.getD j default).Kind
    ·rw[al rW] at bL;unfold s8 at rW;generalize nl ⟨aA,space,db,bc,bp,ids,bJ,opened,a8,bF,q,last,bK,bS,code⟩ (cY.getD j default)=Ti at *;obtain ⟨yu,yv⟩:=Ti;dsimp only at *;by_cases jh:yv=0
     ·subst jh;rw[al rfl] at bL;unfold ml at bL;dsimp only at bL;(repeat' first|(refine dL [0,1,3] (uR) (h:=?_))|(refine fi [0,1,3] (uR) (h:=?_))|(refine gd [0,1,3] (uR) (h:=?_))|(refine ay ?_;(and_intros <;> intros))|fail)
      all_goals first
       | (exact⟨(j+1,a8,yu),b4,⟨fh,bL,fG,hK,Th⟩,ba⟩)
       | (exfalso;omega)
       | skip
     ·rw[ah jh] at bL
      cases bL
      rw[ah jh] at hm
      cases hm
      rcases hH with⟨ai,_⟩ | ⟨_,rfl⟩
      ·exact absurd ai jh
      ·(repeat' first|(refine dL [0,1,3] (uR) (h:=?_))|(refine fi [0,1,3] (uR) (h:=?_))|(refine gd [0,1,3] (uR) (h:=?_))|(refine ay ?_;(and_intros <;> intros))|fail)
       all_goals first|exact ed|skip
    ·rw[ah rW] at bL;unfold s8 at rW;rw[al rfl] at bL;unfold ml at bL;dsimp only at bL;(try refine ay ?_;and_intros <;> intros)
     all_goals first
      | (exact⟨(j+1,a8,q),b4,⟨fh,bL,fG,hK,hq⟩,ba⟩)
      | (exfalso;omega)
      | skip
  ·have nR:j=(l.getD k default).Frames.length:=by omega
   subst nR;rw[iJ] at bL;unfold j7 at bL
   cases bL
   rw[al rfl] at hm;(try refine ay ?_;and_intros <;> intros)
   all_goals first
    | (exact⟨(k+1,db,a8,q),b4,⟨au,hm,fG,hK,hq⟩,ba⟩)
    | skip
 ·have ca:k=l.length:=by omega
  subst ca;rw[iJ] at hm;unfold jN at hm
  cases hm
  rcases hH with⟨_,rfl⟩ | ⟨ai,_⟩
  ·(try refine ay ?_;and_intros <;> intros)
   all_goals first|exact nY|skip
  ·exact absurd rfl ai
end Go.Proofs.YtendheafcbickaaGreat
