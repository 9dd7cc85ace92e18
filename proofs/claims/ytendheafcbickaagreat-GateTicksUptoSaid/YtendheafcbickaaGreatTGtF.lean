
import Derived.Test.YtendheafcbickaaGreatTZip
import Derived.Test.YtendheafcbickaaGreatTGo
import Derived.Test.YtendheafcbickaaGreatTGtE
set_option linter.unusedVariables false
set_option linter.unusedSimpArgs false
set_option maxHeartbeats 16000000
namespace Go.Proofs.YtendheafcbickaaGreat
set_option maxRecDepth 100000
attribute [local irreducible] cq a8 bw GStep Fn cu bk cU
theorem H7 (now:Int) (n:cb) (r:List cb) (g:cl) (o:List dG) (l:List cb):jB now (n :: r) g o l=jB now r (hM now 3 n g o).2.1 (hM now 3 n g o).2.2 (if (hM now 3 n g o).1.bX.iz=true then l else l++[(hM now 3 n g o).1]):=rfl
theorem PU {B:Nat} (g:cl) (e6:List cb) (out:List dG) (aB:B<=16777216) (aj:iu g) (hn:∀ y ∈ e6,jQ B y) (eI:g.bb=e6) (aq:e6.length<=1000) (aa:out.length<=1000) (G:cl) (O:List dG) (L:List cb) (bn:jB g.b4 e6 g out []=(G,O,L)) :
  cU Tryz.prog 40 [.ptr 0 0 0 0] [(0,some (.box 86 (qW g (.ro (e6.map cQ)) (.own 1)))),(1,some (.row 99 2 (out.map dc)))] 2 (.b0 []) [(0,some (.box 86 (qW G (.own 2) (.own 3)))),(2,some (.row 90 29 (L.map cQ))),(3,some (.row 99 2 (O.map dc)))] 4:=by
 obtain ⟨now,hH⟩:∃ now,g.b4=now:=⟨_,rfl⟩
 rw[hH] at bn
 unfold qW
 refine gG ae Tryz.func40 rfl ae (by rfl) ?_
 refine lZ (pO 1 (bG:=⟨[(0,.ptr 0 0 0 0)],[(0,some (.box 86 [.lit (.int .u64 g.iQ),.lit (.int .i64 g.b4),.lit (.int .i64 g.Next),.ro (e6.map cQ),.lit (.bool g.c1.bO),.lit (.int .i64 g.c1.bM),.lit (.int .i64 g.c1.az),.lit (.bool g.c2.bO),.lit (.int .i64 g.c2.bM),.lit (.int .i64 g.c2.az),.lit (.bool g.c3.bO),.lit (.int .i64 g.c3.bM),.lit (.int .i64 g.c3.az),.lit (.bool g.c4.bO),.lit (.int .i64 g.c4.bM),.lit (.int .i64 g.c4.az),.lit (.bool g.jN),.lit (.int .i64 g.hR),.own 2])),(2,some (.row 99 2 (out.map dc)))],3,Tryz.f40.ntmps⟩)) ?_
 (repeat' first|(refine ab ?_;((repeat' first|exact True.intro|refine R.mk ?_ ?_);all_goals intros))|fail "")
 refine b2 (fun x:Nat×cl×List dG×List cb=>⟨[(0,.ptr 0 0 0 0),(14,.ro (e6.map cQ)),(15,.lit (.int .i64 e6.length)),(16,.lit (.int .i64 x.1)),(2,.own 3)],[(0,some (.box 86 [.lit (.int .u64 x.2.1.iQ),.lit (.int .i64 x.2.1.b4),.lit (.int .i64 x.2.1.Next),.ro (e6.map cQ),.lit (.bool x.2.1.c1.bO),.lit (.int .i64 x.2.1.c1.bM),.lit (.int .i64 x.2.1.c1.az),.lit (.bool x.2.1.c2.bO),.lit (.int .i64 x.2.1.c2.bM),.lit (.int .i64 x.2.1.c2.az),.lit (.bool x.2.1.c3.bO),.lit (.int .i64 x.2.1.c3.bM),.lit (.int .i64 x.2.1.c3.az),.lit (.bool x.2.1.c4.bO),.lit (.int .i64 x.2.1.c4.bM),.lit (.int .i64 x.2.1.c4.az),.lit (.bool x.2.1.jN),.lit (.int .i64 x.2.1.hR),.own 2])),(2,some (.row 99 2 (x.2.2.1.map dc))),(3,some (.row 90 29 (x.2.2.2.map cQ)))],4,Tryz.f40.ntmps⟩)
  (fun x=>x.1<=e6.length/\iu x.2.1/\x.2.1.bb=e6/\x.2.1.b4=now/\x.2.2.1.length<=1000+3 * x.1/\x.2.2.2.length<=x.1/\jB now (e6.drop x.1) x.2.1 x.2.2.1 x.2.2.2=(G,O,L)) (fun x=>e6.length - x.1) (0,g,out,[]) ⟨Nat.zero_le _,aj,eI,hH,by omega,by simp,bn⟩ ((ic (n:=3) (t:=2) 90 29 rfl rfl rfl).trans gf) ?_
 clear aj bn hH aa eI g out
 rintro ⟨k,g,out,left⟩ ⟨ag,aj,eI,hH,jS,fW,aV⟩
 dsimp only at *
 by_cases aJ:k<e6.length
 ·have hc:=hn _ (cY aJ)
  rw[drop_cons aJ,H7] at aV
  generalize b1:hM now 3 (e6.getD k default) g out=A at aV
  obtain ⟨sK,g1,fO⟩:=A
  dsimp only at aV
  have kA:=zK (now:=now) aB 3 (o:=out) hc aj
  rw[b1] at kA
  dsimp only at kA
  (repeat' first|(refine hB 4 ?_;((repeat' first|exact True.intro|refine R.mk ?_ ?_);all_goals intros))|fail "")
  all_goals try (exfalso;omega)
  refine fG (fun x:cb×cl×List dG=>⟨[(0,.ptr 0 0 0 0),(14,.ro (e6.map cQ)),(15,.lit (.int .i64 e6.length)),(16,.lit (.int .i64 k)),(2,.own 3),(4,.ptr 4 0 0 0)],[(0,some (.box 86 [.lit (.int .u64 x.2.1.iQ),.lit (.int .i64 x.2.1.b4),.lit (.int .i64 x.2.1.Next),.ro (e6.map cQ),.lit (.bool x.2.1.c1.bO),.lit (.int .i64 x.2.1.c1.bM),.lit (.int .i64 x.2.1.c1.az),.lit (.bool x.2.1.c2.bO),.lit (.int .i64 x.2.1.c2.bM),.lit (.int .i64 x.2.1.c2.az),.lit (.bool x.2.1.c3.bO),.lit (.int .i64 x.2.1.c3.bM),.lit (.int .i64 x.2.1.c3.az),.lit (.bool x.2.1.c4.bO),.lit (.int .i64 x.2.1.c4.bM),.lit (.int .i64 x.2.1.c4.az),.lit (.bool x.2.1.jN),.lit (.int .i64 x.2.1.hR),.own 2])),(2,some (.row 99 2 (x.2.2.map dc))),(3,some (.row 90 29 (left.map cQ))),(4,some (.box 90 (cQ x.1)))],5,Tryz.f40.ntmps⟩) (fun x=>x=(sK,g1,fO)) ?_ ?_
  ·(repeat' first|(refine ab ?_;((repeat' first|exact True.intro|refine R.mk ?_ ?_);all_goals intros))|fail "")
   all_goals try (exfalso;omega)
   refine b2 (fun x:Nat×cb×cl×List dG=>⟨[(0,.ptr 0 0 0 0),(14,.ro (e6.map cQ)),(15,.lit (.int .i64 e6.length)),(16,.lit (.int .i64 k)),(2,.own 3),(4,.ptr 4 0 0 0),(20,.lit (.int .i64 x.1))],[(0,some (.box 86 [.lit (.int .u64 x.2.2.1.iQ),.lit (.int .i64 x.2.2.1.b4),.lit (.int .i64 x.2.2.1.Next),.ro (e6.map cQ),.lit (.bool x.2.2.1.c1.bO),.lit (.int .i64 x.2.2.1.c1.bM),.lit (.int .i64 x.2.2.1.c1.az),.lit (.bool x.2.2.1.c2.bO),.lit (.int .i64 x.2.2.1.c2.bM),.lit (.int .i64 x.2.2.1.c2.az),.lit (.bool x.2.2.1.c3.bO),.lit (.int .i64 x.2.2.1.c3.bM),.lit (.int .i64 x.2.2.1.c3.az),.lit (.bool x.2.2.1.c4.bO),.lit (.int .i64 x.2.2.1.c4.bM),.lit (.int .i64 x.2.2.1.c4.az),.lit (.bool x.2.2.1.jN),.lit (.int .i64 x.2.2.1.hR),.own 2])),(2,some (.row 99 2 (x.2.2.2.map dc))),(3,some (.row 90 29 (left.map cQ))),(4,some (.box 90 (cQ x.2.1)))],5,Tryz.f40.ntmps⟩)
    (fun x=>x.1<=3/\jQ B x.2.1/\iu x.2.2.1/\x.2.2.1.bb=e6/\x.2.2.1.b4=now/\x.2.2.2.length<=out.length+x.1/\hM now (3 - x.1) x.2.1 x.2.2.1 x.2.2.2=(sK,g1,fO)) (fun x=>3 - x.1) (0,e6.getD k default,g,out) ⟨by omega,hc,aj,eI,hH,by dsimp only;omega,b1⟩ gf ?_
   clear b1 kA aV hc aj eI hH hn
   rintro ⟨j,n,g,o⟩ ⟨ah,hc,aj,eI,hH,PV,b1⟩
   dsimp only at *
   obtain ⟨dP,dy,dq,dr,jT,dz⟩:=n
   have I:=PW dz now (sL hc.j hc.l aB)
   have J:=PX dr false
   have pc:=hc.f
   have H8:aF dz.bf.dn:=hc.j.sp.2.2.2.1
   have ch:=fun he=>Dn (c:=dz) (now:=now) hc.j hc.l aB he
   by_cases PY:j<3
   ·obtain ⟨m,hm⟩:∃ m,3 - j=m+1:=⟨3 - j - 1,by omega⟩
    have ei:3 - (j+1)=m:=by omega
    rw[hm,Dp] at b1
    unfold nZ at b1
    dsimp only at *
    have fY:=fun he:(iE dz now).2.2.2=0=>hc.v8 (ch he).j (ch he).l
    unfold qc at fY b1
    dsimp only at fY b1 pc
    generalize iE dz now=cN at *
    obtain ⟨aK,num,dA,Dq⟩:=cN
    unfold kV at I
    dsimp only at *
    rw[<- hH] at I
    by_cases he:Dq=0
    ·subst he
     obtain ⟨f1,f2,f3,f4,f5⟩:=ch rfl
     have fY:=fY rfl
     dsimp only at f3 f4 f5
     by_cases jC:dA.length=0
     ·rw[if_neg (fun q=>q.1.2.1 jC)] at b1
      cases jT
      all_goals
       cases b1
       clear ch hc fY f1 f2 aj
       (repeat' first|(refine ar (I) (h:=?_))|(refine au (I) (h:=?_))|(refine ab ?_;((repeat' first|exact True.intro|refine R.mk ?_ ?_);all_goals intros))|fail "")
       all_goals (try dsimp only at *)
       all_goals first
        | (refine ⟨(cb.mk dP dy dq dr false dz,g,o),?_,?_⟩;rotate_left 1;(exact ax);(focus (rfl)))
        | (refine ⟨(cb.mk dP dy dq dr true dz,g,o),?_,?_⟩;rotate_left 1;(exact ax);(focus (rfl)))
        | (refine ⟨(cb.mk dP dy dq dr false dz,g1,fO),?_,?_⟩;rotate_left 1;(exact ax);(focus (rfl)))
        | (refine ⟨(cb.mk dP dy dq dr true dz,g1,fO),?_,?_⟩;rotate_left 1;(exact ax);(focus (rfl)))
        | (exfalso;omega)
        | (exfalso;simp only[List.length_map] at *;omega)
        | skip
     ·cases jT
      ·rw[if_neg (fun q=>Bool.false_ne_true q.1.2.2)] at b1
       cases b1
       clear ch hc fY f1 f2 aj
       (repeat' first|(refine ar (I) (h:=?_))|(refine au (I) (h:=?_))|(refine ab ?_;((repeat' first|exact True.intro|refine R.mk ?_ ?_);all_goals intros))|fail "")
       all_goals (try dsimp only at *)
       all_goals first
        | (refine ⟨(cb.mk dP dy dq dr false dz,g,o),?_,?_⟩;rotate_left 1;(exact ax);(focus (rfl)))
        | (refine ⟨(cb.mk dP dy dq dr true dz,g,o),?_,?_⟩;rotate_left 1;(exact ax);(focus (rfl)))
        | (refine ⟨(cb.mk dP dy dq dr false dz,g1,fO),?_,?_⟩;rotate_left 1;(exact ax);(focus (rfl)))
        | (refine ⟨(cb.mk dP dy dq dr true dz,g1,fO),?_,?_⟩;rotate_left 1;(exact ax);(focus (rfl)))
        | (exfalso;omega)
        | (exfalso;simp only[List.length_map] at *;omega)
        | skip
      ·have av:=PZ (n1 dr false) dy num dz.bf.dn dA (by unfold aF;omega) f4 (by omega)
       have ix:=H9 (n1 dr false) (ny dy) num dz.bf.dn dA
       generalize nw (n1 dr false) (ny dy) num dz.bf.dn dA=P at *
       obtain ⟨qd,sM⟩:=P
       unfold rj wa at av
       dsimp only at *
       by_cases wb:sM=0
       ·subst wb
        generalize hS:lz g dq qd=S at *
        obtain ⟨oC,ok⟩:=S
        have kW:=NJ g o dq qd (e6.map cQ) aj hc.p (by omega) (by omega) ok oC hS
        have rp:=Dr (p:=dq) (b:=qd) aj
        rw[hS] at rp
        unfold qW at kW
        dsimp only at *
        cases ok
        ·rw[if_neg (fun q=>Bool.false_ne_true q.2.2)] at b1
         have Ds:oC=g:=by
          unfold lz at hS
          split at hS
          ·cases hS
          ·cases hS;rfl
         subst Ds
         cases b1
         rw[if_neg Bool.false_ne_true] at kW
         clear ch hc fY f1 f2 aj rp
         (repeat' first|(refine ar (I) (h:=?_))|(refine au (I) (h:=?_))|(refine ar (J) (h:=?_))|(refine au (J) (h:=?_))|(refine ar (av) (h:=?_))|(refine au (av) (h:=?_))|(refine eL [0,2] (kW) (h:=?_))|(refine eM [0,2] (kW) (h:=?_))|(refine gU [0,2] (kW) (h:=?_))|(refine ab ?_;((repeat' first|exact True.intro|refine R.mk ?_ ?_);all_goals intros))|fail "")
         all_goals (try dsimp only at *)
         all_goals first
          | (refine ⟨(cb.mk dP dy dq dr true dz,oC,o),?_,?_⟩;rotate_left 1;(exact ax);(focus (rfl)))
          | (refine ⟨(cb.mk dP dy dq dr true dz,oC,fO),?_,?_⟩;rotate_left 1;(exact ax);(focus (rfl)))
          | (refine ⟨(cb.mk dP dy dq dr true dz,g1,fO),?_,?_⟩;rotate_left 1;(exact ax);(focus (rfl)))
          | (refine ⟨(cb.mk dP dy dq dr true dz,g,o),?_,?_⟩;rotate_left 1;(exact ax);(focus (rfl)))
          | (exfalso;omega)
          | (exfalso;simp only[List.length_map] at *;omega)
          | skip
        ·rw[if_pos ⟨⟨rfl,jC,rfl⟩,rfl,rfl⟩] at b1
         rw[if_pos rfl] at kW
         obtain ⟨s1,s2,oD⟩:=rp
         clear ch hc f1 f2 aj
         (repeat' first|(refine ar (I) (h:=?_))|(refine au (I) (h:=?_))|(refine ar (J) (h:=?_))|(refine au (J) (h:=?_))|(refine ar (av) (h:=?_))|(refine au (av) (h:=?_))|(refine eL [0,2] (kW) (h:=?_))|(refine eM [0,2] (kW) (h:=?_))|(refine gU [0,2] (kW) (h:=?_))|(refine ab ?_;((repeat' first|exact True.intro|refine R.mk ?_ ?_);all_goals intros))|fail "")
         all_goals (try dsimp only at *)
         all_goals first
          | (refine ⟨(j+1,⟨dP,dy,dq,dr,true,aK⟩,oC,o++[⟨dq,qd⟩]),?_,?_,?_⟩;rotate_left 2;(exact ax);(exact bV);(exact Ia))
          | (exfalso;omega)
          | (exfalso;simp only[List.length_map] at *;omega)
          | skip
       ·rw[if_neg (fun q=>wb q.2.1)] at b1
        cases b1
        clear ch hc fY f1 f2 aj
        (repeat' first|(refine ar (I) (h:=?_))|(refine au (I) (h:=?_))|(refine ar (J) (h:=?_))|(refine au (J) (h:=?_))|(refine ar (av) (h:=?_))|(refine au (av) (h:=?_))|(refine ab ?_;((repeat' first|exact True.intro|refine R.mk ?_ ?_);all_goals intros))|fail "")
        all_goals (try dsimp only at *)
        all_goals first
         | (refine ⟨(cb.mk dP dy dq dr false dz,g,o),?_,?_⟩;rotate_left 1;(exact ax);(focus (rfl)))
         | (refine ⟨(cb.mk dP dy dq dr true dz,g,o),?_,?_⟩;rotate_left 1;(exact ax);(focus (rfl)))
         | (refine ⟨(cb.mk dP dy dq dr false dz,g1,fO),?_,?_⟩;rotate_left 1;(exact ax);(focus (rfl)))
         | (refine ⟨(cb.mk dP dy dq dr true dz,g1,fO),?_,?_⟩;rotate_left 1;(exact ax);(focus (rfl)))
         | (exfalso;omega)
         | (exfalso;simp only[List.length_map] at *;omega)
         | skip
    ·rw[if_neg (fun q=>he q.1.1)] at b1
     cases jT
     all_goals
      cases b1
      clear ch hc fY aj
      (repeat' first|(refine ar (I) (h:=?_))|(refine au (I) (h:=?_))|(refine ab ?_;((repeat' first|exact True.intro|refine R.mk ?_ ?_);all_goals intros))|fail "")
      all_goals (try dsimp only at *)
      all_goals first
       | (refine ⟨(cb.mk dP dy dq dr false dz,g,o),?_,?_⟩;rotate_left 1;(exact ax);(focus (rfl)))
       | (refine ⟨(cb.mk dP dy dq dr true dz,g,o),?_,?_⟩;rotate_left 1;(exact ax);(focus (rfl)))
       | (refine ⟨(cb.mk dP dy dq dr false dz,g1,fO),?_,?_⟩;rotate_left 1;(exact ax);(focus (rfl)))
       | (refine ⟨(cb.mk dP dy dq dr true dz,g1,fO),?_,?_⟩;rotate_left 1;(exact ax);(focus (rfl)))
       | (exfalso;omega)
       | (exfalso;simp only[List.length_map] at *;omega)
       | skip
   ·have me:3 - j=0:=by omega
    rw[me] at b1
    unfold hM at b1
    cases jT
    all_goals
     cases b1
     clear ch hc aj I J
     (repeat' first|(refine ab ?_;((repeat' first|exact True.intro|refine R.mk ?_ ?_);all_goals intros))|fail "")
     all_goals (try dsimp only at *)
     all_goals first
      | (refine ⟨(cb.mk dP dy dq dr false dz,g,o),?_,?_⟩;rotate_left 1;(exact ax);(focus (rfl)))
      | (refine ⟨(cb.mk dP dy dq dr true dz,g,o),?_,?_⟩;rotate_left 1;(exact ax);(focus (rfl)))
      | (refine ⟨(cb.mk dP dy dq dr false dz,g1,fO),?_,?_⟩;rotate_left 1;(exact ax);(focus (rfl)))
      | (refine ⟨(cb.mk dP dy dq dr true dz,g1,fO),?_,?_⟩;rotate_left 1;(exact ax);(focus (rfl)))
      | (exfalso;omega)
      | (exfalso;simp only[List.length_map] at *;omega)
      | skip
  rintro _ rfl
  dsimp only
  obtain ⟨fs,a2,a3,a4,a5,ur⟩:=kA
  clear b1
  obtain ⟨dP,dy,dq,dr,jT,dz⟩:=sK
  obtain ⟨aA,space,bp,bU,credit,ids,cH,opened,bE,b3,queue,last,cL,dw,code⟩:=dz
  dsimp only at *
  cases dw
  ·rw[if_neg Bool.false_ne_true] at aV
   clear fs
   (repeat' first|(refine cx (r:=(left++[cb.mk dP dy dq dr jT (a6.mk aA space bp bU credit ids cH opened bE b3 queue last cL false code)]).map cQ) ?_ ?_ ?_ ?_ (h:=?_);(exact aM);(exact al);(exact an);(exact ao))|(refine cD (r:=(left++[cb.mk dP dy dq dr jT (a6.mk aA space bp bU credit ids cH opened bE b3 queue last cL false code)]).map cQ) ?_ ?_ ?_ ?_ (h:=?_);(exact aM);(exact al);(exact an);(exact ao))|(refine cE (r:=(left++[cb.mk dP dy dq dr jT (a6.mk aA space bp bU credit ids cH opened bE b3 queue last cL false code)]).map cQ) ?_ ?_ ?_ ?_ (h:=?_);(exact aM);(exact al);(exact an);(exact ao))|(refine cF (r:=(left++[cb.mk dP dy dq dr jT (a6.mk aA space bp bU credit ids cH opened bE b3 queue last cL false code)]).map cQ) ?_ ?_ ?_ ?_ (h:=?_);(exact aM);(exact al);(exact an);(exact ao))|(refine ab ?_;((repeat' first|exact True.intro|refine R.mk ?_ ?_);all_goals intros))|fail "")
   all_goals (try dsimp only at *)
   all_goals first
    | (refine ⟨(k+1,g1,fO,left++[⟨dP,dy,dq,dr,jT,⟨aA,space,bp,bU,credit,ids,cH,opened,bE,b3,queue,last,cL,false,code⟩⟩]),?_,?_,?_⟩;rotate_left 2;(exact ax);(exact bV);(exact Ib))
    | (exfalso;omega)
    | skip
  ·rw[if_pos rfl] at aV
   clear fs
   (repeat' first|(refine ab ?_;((repeat' first|exact True.intro|refine R.mk ?_ ?_);all_goals intros))|fail "")
   all_goals (try dsimp only at *)
   all_goals first
    | (refine ⟨(k+1,g1,fO,left),?_,?_,?_⟩;rotate_left 2;(exact ax);(exact bV);(exact Ic))
    | (exfalso;omega)
    | skip
 ·have ct:k=e6.length:=by omega
  subst ct
  rw[List.drop_length] at aV
  unfold jB at aV
  cases aV
  clear hn
  (repeat' first|(refine ab ?_;((repeat' first|exact True.intro|refine R.mk ?_ ?_);all_goals intros))|fail "")
  all_goals first
   | (exact fg)
   | (exfalso;omega)
   | skip
theorem P0 {B:Nat} (g:cl) (e6:List cb) (out:List dG) (aB:B<=16777216) (aj:iu g) (hn:∀ y ∈ e6,jQ B y) (eI:g.bb=e6) (aq:e6.length<=1000) (aa:out.length<=1000) (G:cl) (O:List dG) (L:List cb) (bn:jB g.b4 e6 g out []=(G,O,L)) :
  Fn Tryz.prog 45 [.agg (fU g),.ro (out.map dc)] (.b0 [.agg (fU (gq G L)),.ro (O.map dc)]):=by
 obtain ⟨now,hH⟩:∃ now,g.b4=now:=⟨_,rfl⟩
 rw[hH] at bn
 refine aU ae Tryz.func45 rfl ae ?_
 generalize fA:fU (gq G L)=Z
 unfold fU gq at fA
 dsimp only at fA
 subst fA
 generalize fA:fU g=Z
 unfold fU at fA
 rw[eI] at fA
 subst fA
 (repeat' first|(refine ab ?_;((repeat' first|exact True.intro|refine R.mk ?_ ?_);all_goals intros))|fail "")
 refine b2 (fun x:Nat×cl×List dG×List cb=>⟨[(2,.ptr 0 0 0 0),(4,.ptr 1 0 0 0),(5,.lit (.slice none 0 0)),(19,.ro (e6.map cQ)),(20,.lit (.int .i64 e6.length)),(21,.lit (.int .i64 x.1)),(6,.own 2),(1,.ro (x.2.2.1.map dc))],[(0,some (.box 28 [.lit (.int .u64 x.2.1.iQ),.lit (.int .i64 x.2.1.b4),.lit (.int .i64 x.2.1.Next),.ro (e6.map cQ),.lit (.bool x.2.1.c1.bO),.lit (.int .i64 x.2.1.c1.bM),.lit (.int .i64 x.2.1.c1.az),.lit (.bool x.2.1.c2.bO),.lit (.int .i64 x.2.1.c2.bM),.lit (.int .i64 x.2.1.c2.az),.lit (.bool x.2.1.c3.bO),.lit (.int .i64 x.2.1.c3.bM),.lit (.int .i64 x.2.1.c3.az),.lit (.bool x.2.1.c4.bO),.lit (.int .i64 x.2.1.c4.bM),.lit (.int .i64 x.2.1.c4.az),.lit (.bool x.2.1.jN),.lit (.int .i64 x.2.1.hR)])),(1,some (.box 28 [.lit (.int .u64 0),.lit (.int .i64 0),.lit (.int .i64 0),.lit (.slice none 0 0),.lit (.bool false),.lit (.int .i64 0),.lit (.int .i64 0),.lit (.bool false),.lit (.int .i64 0),.lit (.int .i64 0),.lit (.bool false),.lit (.int .i64 0),.lit (.int .i64 0),.lit (.bool false),.lit (.int .i64 0),.lit (.int .i64 0),.lit (.bool false),.lit (.int .i64 0)])),(2,some (.row 90 29 (x.2.2.2.map cQ)))],3,Tryz.f45.ntmps⟩)
  (fun x=>x.1<=e6.length/\iu x.2.1/\x.2.1.bb=e6/\x.2.1.b4=now/\x.2.2.1.length<=1000+3 * x.1/\x.2.2.2.length<=x.1/\jB now (e6.drop x.1) x.2.1 x.2.2.1 x.2.2.2=(G,O,L)) (fun x=>e6.length - x.1) (0,g,out,[]) ⟨Nat.zero_le _,aj,eI,hH,by omega,by simp,bn⟩ ((ic (n:=2) (t:=6) 90 29 rfl rfl rfl).trans gf) ?_
 clear aj bn hH aa eI g out
 rintro ⟨k,g,out,left⟩ ⟨ag,aj,eI,hH,jS,fW,aV⟩
 dsimp only at *
 by_cases aJ:k<e6.length
 ·have hc:=hn _ (cY aJ)
  rw[drop_cons aJ,H7] at aV
  generalize b1:hM now 3 (e6.getD k default) g out=A at aV
  obtain ⟨sK,g1,fO⟩:=A
  dsimp only at aV
  have kA:=zK (now:=now) aB 3 (o:=out) hc aj
  rw[b1] at kA
  dsimp only at kA
  (repeat' first|(refine hB 5 ?_;((repeat' first|exact True.intro|refine R.mk ?_ ?_);all_goals intros))|fail "")
  all_goals try (exfalso;omega)
  refine fG (fun x:cb×cl×List dG=>⟨[(2,.ptr 0 0 0 0),(4,.ptr 1 0 0 0),(5,.lit (.slice none 0 0)),(19,.ro (e6.map cQ)),(20,.lit (.int .i64 e6.length)),(21,.lit (.int .i64 k)),(6,.own 2),(1,.ro (x.2.2.map dc)),(8,.ptr 3 0 0 0)],[(0,some (.box 28 [.lit (.int .u64 x.2.1.iQ),.lit (.int .i64 x.2.1.b4),.lit (.int .i64 x.2.1.Next),.ro (e6.map cQ),.lit (.bool x.2.1.c1.bO),.lit (.int .i64 x.2.1.c1.bM),.lit (.int .i64 x.2.1.c1.az),.lit (.bool x.2.1.c2.bO),.lit (.int .i64 x.2.1.c2.bM),.lit (.int .i64 x.2.1.c2.az),.lit (.bool x.2.1.c3.bO),.lit (.int .i64 x.2.1.c3.bM),.lit (.int .i64 x.2.1.c3.az),.lit (.bool x.2.1.c4.bO),.lit (.int .i64 x.2.1.c4.bM),.lit (.int .i64 x.2.1.c4.az),.lit (.bool x.2.1.jN),.lit (.int .i64 x.2.1.hR)])),(1,some (.box 28 [.lit (.int .u64 0),.lit (.int .i64 0),.lit (.int .i64 0),.lit (.slice none 0 0),.lit (.bool false),.lit (.int .i64 0),.lit (.int .i64 0),.lit (.bool false),.lit (.int .i64 0),.lit (.int .i64 0),.lit (.bool false),.lit (.int .i64 0),.lit (.int .i64 0),.lit (.bool false),.lit (.int .i64 0),.lit (.int .i64 0),.lit (.bool false),.lit (.int .i64 0)])),(2,some (.row 90 29 (left.map cQ))),(3,some (.box 90 (cQ x.1)))],4,Tryz.f45.ntmps⟩) (fun x=>x=(sK,g1,fO)) ?_ ?_
  ·(repeat' first|(refine ab ?_;((repeat' first|exact True.intro|refine R.mk ?_ ?_);all_goals intros))|fail "")
   all_goals try (exfalso;omega)
   refine b2 (fun x:Nat×cb×cl×List dG=>⟨[(2,.ptr 0 0 0 0),(4,.ptr 1 0 0 0),(5,.lit (.slice none 0 0)),(19,.ro (e6.map cQ)),(20,.lit (.int .i64 e6.length)),(21,.lit (.int .i64 k)),(6,.own 2),(1,.ro (x.2.2.2.map dc)),(8,.ptr 3 0 0 0),(9,.lit (.int .i64 x.1))],[(0,some (.box 28 [.lit (.int .u64 x.2.2.1.iQ),.lit (.int .i64 x.2.2.1.b4),.lit (.int .i64 x.2.2.1.Next),.ro (e6.map cQ),.lit (.bool x.2.2.1.c1.bO),.lit (.int .i64 x.2.2.1.c1.bM),.lit (.int .i64 x.2.2.1.c1.az),.lit (.bool x.2.2.1.c2.bO),.lit (.int .i64 x.2.2.1.c2.bM),.lit (.int .i64 x.2.2.1.c2.az),.lit (.bool x.2.2.1.c3.bO),.lit (.int .i64 x.2.2.1.c3.bM),.lit (.int .i64 x.2.2.1.c3.az),.lit (.bool x.2.2.1.c4.bO),.lit (.int .i64 x.2.2.1.c4.bM),.lit (.int .i64 x.2.2.1.c4.az),.lit (.bool x.2.2.1.jN),.lit (.int .i64 x.2.2.1.hR)])),(1,some (.box 28 [.lit (.int .u64 0),.lit (.int .i64 0),.lit (.int .i64 0),.lit (.slice none 0 0),.lit (.bool false),.lit (.int .i64 0),.lit (.int .i64 0),.lit (.bool false),.lit (.int .i64 0),.lit (.int .i64 0),.lit (.bool false),.lit (.int .i64 0),.lit (.int .i64 0),.lit (.bool false),.lit (.int .i64 0),.lit (.int .i64 0),.lit (.bool false),.lit (.int .i64 0)])),(2,some (.row 90 29 (left.map cQ))),(3,some (.box 90 (cQ x.2.1)))],4,Tryz.f45.ntmps⟩)
    (fun x=>x.1<=3/\jQ B x.2.1/\iu x.2.2.1/\x.2.2.1.bb=e6/\x.2.2.1.b4=now/\x.2.2.2.length<=out.length+x.1/\hM now (3 - x.1) x.2.1 x.2.2.1 x.2.2.2=(sK,g1,fO)) (fun x=>3 - x.1) (0,e6.getD k default,g,out) ⟨by omega,hc,aj,eI,hH,by dsimp only;omega,b1⟩ gf ?_
   clear b1 kA aV hc aj eI hH hn
   rintro ⟨j,n,g,o⟩ ⟨ah,hc,aj,eI,hH,PV,b1⟩
   dsimp only at *
   obtain ⟨dP,dy,dq,dr,jT,dz⟩:=n
   have I:=P1 dz now (sL hc.j hc.l aB)
   have J:=P2 dr false
   have pc:=hc.f
   have H8:aF dz.bf.dn:=hc.j.sp.2.2.2.1
   have ch:=fun he=>Dn (c:=dz) (now:=now) hc.j hc.l aB he
   by_cases PY:j<3
   ·obtain ⟨m,hm⟩:∃ m,3 - j=m+1:=⟨3 - j - 1,by omega⟩
    have ei:3 - (j+1)=m:=by omega
    rw[hm,Dp] at b1
    unfold nZ at b1
    dsimp only at *
    have fY:=fun he:(iE dz now).2.2.2=0=>hc.v8 (ch he).j (ch he).l
    unfold qc at fY b1
    dsimp only at fY b1 pc
    generalize iE dz now=cN at *
    obtain ⟨aK,num,dA,Dq⟩:=cN
    unfold kV at I
    dsimp only at *
    rw[<- hH] at I
    by_cases he:Dq=0
    ·subst he
     obtain ⟨f1,f2,f3,f4,f5⟩:=ch rfl
     have fY:=fY rfl
     dsimp only at f3 f4 f5
     by_cases jC:dA.length=0
     ·rw[if_neg (fun q=>q.1.2.1 jC)] at b1
      cases jT
      all_goals
       cases b1
       clear ch hc fY f1 f2 aj
       (repeat' first|(refine ar (I) (h:=?_))|(refine au (I) (h:=?_))|(refine ab ?_;((repeat' first|exact True.intro|refine R.mk ?_ ?_);all_goals intros))|fail "")
       all_goals (try dsimp only at *)
       all_goals first
        | (refine ⟨(cb.mk dP dy dq dr false dz,g,o),?_,?_⟩;rotate_left 1;(exact ax);(focus (rfl)))
        | (refine ⟨(cb.mk dP dy dq dr true dz,g,o),?_,?_⟩;rotate_left 1;(exact ax);(focus (rfl)))
        | (refine ⟨(cb.mk dP dy dq dr false dz,g1,fO),?_,?_⟩;rotate_left 1;(exact ax);(focus (rfl)))
        | (refine ⟨(cb.mk dP dy dq dr true dz,g1,fO),?_,?_⟩;rotate_left 1;(exact ax);(focus (rfl)))
        | (exfalso;omega)
        | (exfalso;simp only[List.length_map] at *;omega)
        | skip
     ·cases jT
      ·rw[if_neg (fun q=>Bool.false_ne_true q.1.2.2)] at b1
       cases b1
       clear ch hc fY f1 f2 aj
       (repeat' first|(refine ar (I) (h:=?_))|(refine au (I) (h:=?_))|(refine ab ?_;((repeat' first|exact True.intro|refine R.mk ?_ ?_);all_goals intros))|fail "")
       all_goals (try dsimp only at *)
       all_goals first
        | (refine ⟨(cb.mk dP dy dq dr false dz,g,o),?_,?_⟩;rotate_left 1;(exact ax);(focus (rfl)))
        | (refine ⟨(cb.mk dP dy dq dr true dz,g,o),?_,?_⟩;rotate_left 1;(exact ax);(focus (rfl)))
        | (refine ⟨(cb.mk dP dy dq dr false dz,g1,fO),?_,?_⟩;rotate_left 1;(exact ax);(focus (rfl)))
        | (refine ⟨(cb.mk dP dy dq dr true dz,g1,fO),?_,?_⟩;rotate_left 1;(exact ax);(focus (rfl)))
        | (exfalso;omega)
        | (exfalso;simp only[List.length_map] at *;omega)
        | skip
      ·have av:=P3 (n1 dr false) dy num dz.bf.dn dA (by unfold aF;omega) f3 H8 f4 (by omega)
       have ix:=H9 (n1 dr false) (ny dy) num dz.bf.dn dA
       generalize nw (n1 dr false) (ny dy) num dz.bf.dn dA=P at *
       obtain ⟨qd,sM⟩:=P
       unfold rj wa at av
       dsimp only at *
       by_cases wb:sM=0
       ·subst wb
        generalize hS:lz g dq qd=S at *
        obtain ⟨oC,ok⟩:=S
        have kW:=NL g o dq qd aj hc.p (by omega) (by omega) ok oC hS
        have rp:=Dr (p:=dq) (b:=qd) aj
        rw[hS] at rp
        unfold fU at kW
        rw[eI,rp.2.1,eI] at kW
        dsimp only at *
        cases ok
        ·rw[if_neg (fun q=>Bool.false_ne_true q.2.2)] at b1
         have Ds:oC=g:=by
          unfold lz at hS
          split at hS
          ·cases hS
          ·cases hS;rfl
         subst Ds
         cases b1
         rw[if_neg Bool.false_ne_true] at kW
         clear ch hc fY f1 f2 aj rp
         (repeat' first|(refine ar (I) (h:=?_))|(refine au (I) (h:=?_))|(refine ar (J) (h:=?_))|(refine au (J) (h:=?_))|(refine ar (av) (h:=?_))|(refine au (av) (h:=?_))|(refine ar (kW) (h:=?_))|(refine au (kW) (h:=?_))|(refine ab ?_;((repeat' first|exact True.intro|refine R.mk ?_ ?_);all_goals intros))|fail "")
         all_goals (try dsimp only at *)
         all_goals first
          | (refine ⟨(cb.mk dP dy dq dr true dz,oC,o),?_,?_⟩;rotate_left 1;(exact ax);(focus (rfl)))
          | (refine ⟨(cb.mk dP dy dq dr true dz,oC,fO),?_,?_⟩;rotate_left 1;(exact ax);(focus (rfl)))
          | (refine ⟨(cb.mk dP dy dq dr true dz,g1,fO),?_,?_⟩;rotate_left 1;(exact ax);(focus (rfl)))
          | (refine ⟨(cb.mk dP dy dq dr true dz,g,o),?_,?_⟩;rotate_left 1;(exact ax);(focus (rfl)))
          | (exfalso;omega)
          | (exfalso;simp only[List.length_map] at *;omega)
          | skip
        ·rw[if_pos ⟨⟨rfl,jC,rfl⟩,rfl,rfl⟩] at b1
         rw[if_pos rfl] at kW
         obtain ⟨s1,s2,oD⟩:=rp
         clear ch hc f1 f2 aj
         (repeat' first|(refine ar (I) (h:=?_))|(refine au (I) (h:=?_))|(refine ar (J) (h:=?_))|(refine au (J) (h:=?_))|(refine ar (av) (h:=?_))|(refine au (av) (h:=?_))|(refine ar (kW) (h:=?_))|(refine au (kW) (h:=?_))|(refine ab ?_;((repeat' first|exact True.intro|refine R.mk ?_ ?_);all_goals intros))|fail "")
         all_goals (try dsimp only at *)
         all_goals first
          | (refine ⟨(j+1,⟨dP,dy,dq,dr,true,aK⟩,oC,o++[⟨dq,qd⟩]),?_,?_,?_⟩;rotate_left 2;(exact ax);(exact bV);(exact Ia))
          | (exfalso;omega)
          | (exfalso;simp only[List.length_map] at *;omega)
          | skip
       ·rw[if_neg (fun q=>wb q.2.1)] at b1
        cases b1
        clear ch hc fY f1 f2 aj
        (repeat' first|(refine ar (I) (h:=?_))|(refine au (I) (h:=?_))|(refine ar (J) (h:=?_))|(refine au (J) (h:=?_))|(refine ar (av) (h:=?_))|(refine au (av) (h:=?_))|(refine ab ?_;((repeat' first|exact True.intro|refine R.mk ?_ ?_);all_goals intros))|fail "")
        all_goals (try dsimp only at *)
        all_goals first
         | (refine ⟨(cb.mk dP dy dq dr false dz,g,o),?_,?_⟩;rotate_left 1;(exact ax);(focus (rfl)))
         | (refine ⟨(cb.mk dP dy dq dr true dz,g,o),?_,?_⟩;rotate_left 1;(exact ax);(focus (rfl)))
         | (refine ⟨(cb.mk dP dy dq dr false dz,g1,fO),?_,?_⟩;rotate_left 1;(exact ax);(focus (rfl)))
         | (refine ⟨(cb.mk dP dy dq dr true dz,g1,fO),?_,?_⟩;rotate_left 1;(exact ax);(focus (rfl)))
         | (exfalso;omega)
         | (exfalso;simp only[List.length_map] at *;omega)
         | skip
    ·rw[if_neg (fun q=>he q.1.1)] at b1
     cases jT
     all_goals
      cases b1
      clear ch hc fY aj
      (repeat' first|(refine ar (I) (h:=?_))|(refine au (I) (h:=?_))|(refine ab ?_;((repeat' first|exact True.intro|refine R.mk ?_ ?_);all_goals intros))|fail "")
      all_goals (try dsimp only at *)
      all_goals first
       | (refine ⟨(cb.mk dP dy dq dr false dz,g,o),?_,?_⟩;rotate_left 1;(exact ax);(focus (rfl)))
       | (refine ⟨(cb.mk dP dy dq dr true dz,g,o),?_,?_⟩;rotate_left 1;(exact ax);(focus (rfl)))
       | (refine ⟨(cb.mk dP dy dq dr false dz,g1,fO),?_,?_⟩;rotate_left 1;(exact ax);(focus (rfl)))
       | (refine ⟨(cb.mk dP dy dq dr true dz,g1,fO),?_,?_⟩;rotate_left 1;(exact ax);(focus (rfl)))
       | (exfalso;omega)
       | (exfalso;simp only[List.length_map] at *;omega)
       | skip
   ·have me:3 - j=0:=by omega
    rw[me] at b1
    unfold hM at b1
    cases jT
    all_goals
     cases b1
     clear ch hc aj I J
     (repeat' first|(refine ab ?_;((repeat' first|exact True.intro|refine R.mk ?_ ?_);all_goals intros))|fail "")
     all_goals (try dsimp only at *)
     all_goals first
      | (refine ⟨(cb.mk dP dy dq dr false dz,g,o),?_,?_⟩;rotate_left 1;(exact ax);(focus (rfl)))
      | (refine ⟨(cb.mk dP dy dq dr true dz,g,o),?_,?_⟩;rotate_left 1;(exact ax);(focus (rfl)))
      | (refine ⟨(cb.mk dP dy dq dr false dz,g1,fO),?_,?_⟩;rotate_left 1;(exact ax);(focus (rfl)))
      | (refine ⟨(cb.mk dP dy dq dr true dz,g1,fO),?_,?_⟩;rotate_left 1;(exact ax);(focus (rfl)))
      | (exfalso;omega)
      | (exfalso;simp only[List.length_map] at *;omega)
      | skip
  rintro _ rfl
  dsimp only
  obtain ⟨fs,a2,a3,a4,a5,ur⟩:=kA
  clear b1
  obtain ⟨dP,dy,dq,dr,jT,dz⟩:=sK
  obtain ⟨aA,space,bp,bU,credit,ids,cH,opened,bE,b3,queue,last,cL,dw,code⟩:=dz
  dsimp only at *
  cases dw
  ·rw[if_neg Bool.false_ne_true] at aV
   clear fs
   (repeat' first|(refine cx (r:=(left++[cb.mk dP dy dq dr jT (a6.mk aA space bp bU credit ids cH opened bE b3 queue last cL false code)]).map cQ) ?_ ?_ ?_ ?_ (h:=?_);(exact aM);(exact al);(exact an);(exact ao))|(refine cD (r:=(left++[cb.mk dP dy dq dr jT (a6.mk aA space bp bU credit ids cH opened bE b3 queue last cL false code)]).map cQ) ?_ ?_ ?_ ?_ (h:=?_);(exact aM);(exact al);(exact an);(exact ao))|(refine cE (r:=(left++[cb.mk dP dy dq dr jT (a6.mk aA space bp bU credit ids cH opened bE b3 queue last cL false code)]).map cQ) ?_ ?_ ?_ ?_ (h:=?_);(exact aM);(exact al);(exact an);(exact ao))|(refine cF (r:=(left++[cb.mk dP dy dq dr jT (a6.mk aA space bp bU credit ids cH opened bE b3 queue last cL false code)]).map cQ) ?_ ?_ ?_ ?_ (h:=?_);(exact aM);(exact al);(exact an);(exact ao))|(refine ab ?_;((repeat' first|exact True.intro|refine R.mk ?_ ?_);all_goals intros))|fail "")
   all_goals (try dsimp only at *)
   all_goals first
    | (refine ⟨(k+1,g1,fO,left++[⟨dP,dy,dq,dr,jT,⟨aA,space,bp,bU,credit,ids,cH,opened,bE,b3,queue,last,cL,false,code⟩⟩]),?_,?_,?_⟩;rotate_left 2;(exact ax);(exact bV);(exact Ib))
    | (exfalso;omega)
    | skip
  ·rw[if_pos rfl] at aV
   clear fs
   (repeat' first|(refine ab ?_;((repeat' first|exact True.intro|refine R.mk ?_ ?_);all_goals intros))|fail "")
   all_goals (try dsimp only at *)
   all_goals first
    | (refine ⟨(k+1,g1,fO,left),?_,?_,?_⟩;rotate_left 2;(exact ax);(exact bV);(exact Ic))
    | (exfalso;omega)
    | skip
 ·have ct:k=e6.length:=by omega
  subst ct
  rw[List.drop_length] at aV
  unfold jB at aV
  cases aV
  clear hn
  (repeat' first|(refine ab ?_;((repeat' first|exact True.intro|refine R.mk ?_ ?_);all_goals intros))|fail "")
  all_goals first
   | (exact bD)
   | (exfalso;omega)
   | skip
end Go.Proofs.YtendheafcbickaaGreat
