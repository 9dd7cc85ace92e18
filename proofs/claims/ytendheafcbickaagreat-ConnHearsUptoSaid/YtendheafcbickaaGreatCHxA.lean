
import Derived.Test.YtendheafcbickaaGreatCHrV
set_option linter.unusedVariables false
set_option linter.unusedSimpArgs false
set_option maxHeartbeats 16000000
namespace Go.Proofs.YtendheafcbickaaGreat
variable {D bn e k n s:Nat} {l:List Nat} {m:Nat->Nat}
set_option maxRecDepth 100000
attribute [local irreducible] cE a6 bu GStep Fn cg bf cA
theorem PW (c:Nat):∀ (A:List (List V)) (u v:Nat->V),(∀ i,i<A.length->u i=v i)->dB c u A=dB c v A
 | [],_,_,_=>rfl
 | x :: r,u,v,h=>by
  have ai:=h 0 (by simp);have bU:=PW c r (fun i=>u (i+1)) (fun i=>v (i+1)) (fun i hi=>h (i+1) (by simpa using hi));show x.set c (u 0) :: dB c (fun i=>u (i+1)) r=x.set c (v 0) :: dB c (fun i=>v (i+1)) r;rw[bU,ai]
theorem XH {m:Nat} {l:List cS} (h:n<l.length):cM k (l.take n)++[(aV dE (l.getD n default)).set 5 (.own m)]=dB 5 (fun i=>.own (if i=n then m else k+i)) ((l.take (n+1)).map (aV dE)):=by
 have ao:((l.take n).map (aV dE)).length=n:=by rw[bY,kO];omega
 rw[mN h,ix];show _=dB 5 _ ((l.take n).map (aV dE)++[aV dE (l.getD n default)]);rw[N1,ao,al rfl];unfold cM;rw[PW 5 _ (fun i=>.own (k+i)) (fun i=>.own (if i=n then m else k+i)) (fun i hi=>by rw[ao] at hi;rw[ah (by omega)])]
theorem lJ {l:List cS}:∀ i,i<(l.map (aV dE)).length->(bb (l.map (aV dE)) i).all hQ=true:=fun i hi=>by
 rw[bY] at hi;rw[gV (aV dE) hi];rfl
theorem lI {L:List (Nat×Nat)} {heap:List (Nat×Option aT)} {id c:Nat} {A:List (List V)} {vs cP:Nat->V} (h:aM heap (ic L id)=some (.ch e s (dB c vs A))) (ar:∀ i,i<A.length->(bb A i).all hQ=true) (ak:∀ i,i<A.length->e6 (gf L) heap (vs i)=some (cP i)) (az:gf L (ic L id)=some id:=by rfl) :
  gf L (ic L id)=some id /\ ∃ B,aM heap (ic L id)=some B/\pg (gf L) heap B (.ch e s (dB c cP A)):=⟨az,_,h,XI ar ak⟩
theorem xg {a b c d e f g h i:Nat}:cp (a :: b :: c :: d :: e :: f :: g :: h :: i :: l) D 8=i:=rfl
theorem xh {a b c d e f g h i j:Nat}:cp (a :: b :: c :: d :: e :: f :: g :: h :: i :: j :: l) D 9=j:=rfl
theorem xi {a b c d e f g h i j:Nat}:cp (a :: b :: c :: d :: e :: f :: g :: h :: i :: j :: k :: l) D 10=k:=rfl
theorem xj {a b c d e f g h i j k m:Nat}:cp (a :: b :: c :: d :: e :: f :: g :: h :: i :: j :: k :: m :: l) D 11=m:=rfl
theorem xk {a b c d e f g h i j k m:Nat}:cp (a :: b :: c :: d :: e :: f :: g :: h :: i :: j :: k :: m :: n :: l) D 12=n:=rfl
theorem PX {v:V} (h:hQ v=true):cz m v=v:=by cases v <;> first|rfl|cases h
theorem PY {m:Nat->Nat}:∀ {cs:List V},cs.all hQ=true->cz.ej m cs=cs
 | [],_=>rfl
 | c :: cs,h=>by
  simp only[List.all_cons,fM] at h;simp only[cz.ej,PX h.1,PY h.2]
theorem PZ {m:Nat->Nat} {v:V}:∀ {cs:List V} {c:Nat},cs.all hQ=true->cz.ej m (cs.set c v)=cs.set c (cz m v)
 | [],_,_=>rfl
 | x :: cs,0,h=>by
  simp only[List.all_cons,fM] at h;simp only[List.set,cz.ej,PY h.2]
 | x :: cs,c+1,h=>by
  simp only[List.all_cons,fM] at h;simp only[List.set,cz.ej,PX h.1,PZ h.2]
theorem P0 {m:Nat->Nat} {c:Nat}:∀ (A:List (List V)) (u v:Nat->V),(∀ x ∈ A,x.all hQ=true)->(∀ i,i<A.length->cz m (u i)=v i)->(dB c u A).map (cz.ej m)=dB c v A
 | [],_,_,_,_=>rfl
 | x :: r,u,v,ar,h=>by
  have ai:=h 0 (by simp);have bU:=P0 (m:=m) (c:=c) r (fun i=>u (i+1)) (fun i=>v (i+1)) (fun y aj=>ar y (ha _ aj)) (fun i hi=>h (i+1) (by simpa using hi));show cz.ej m (x.set c (u 0)) :: (dB c (fun i=>u (i+1)) r).map (cz.ej m)=x.set c (v 0) :: dB c (fun i=>v (i+1)) r;rw[bU,PZ (ar x fV),ai]
theorem xl {l:List cS} (h:∀ i,i<l.length->m (k+i)=bn + i):(cM k l).map (cz.ej m)=cM bn l:=by
 unfold cM;refine P0 _ _ _ (fun x U=>?_) (fun i hi=>?_)
 ·obtain ⟨y,_,rfl⟩:=List.mem_map.1 U;rfl
 ·rw[bY] at hi;show V.own (m (k+i))=_;rw[h i hi]
theorem XJ {l:List cS} (h:∀ i,i<l.length->m (k+i)=bn + i):some (aT.ch e s (cM bn l))=some (jm m (.ch e s (cM k l))):=by
 show _=some (aT.ch e s ((cM k l).map (cz.ej m)));rw[xl h]
def Ei (c:aG) (k i:Nat):List (List V):=if i<k then(c.aq.getD i default).Read.map bm else[]
theorem U6 (c:aG) (hw:fw c) (bk:c.aq.length<=4):cA Tryz.prog 60 [.agg (cj c)] [] 0 (.agg (a1 c (.own 0) (.own 1)))
  [(0,some (.ch 134 16 (cM 2 c.aq))),(1,some (.row 111 7 (c.Queue.map aO))),(2,some (.row 5 1 (bV c 0))),(3,some (.row 5 1 (bV c 1))),(4,some (.row 5 1 (bV c 2))),(5,some (.row 5 1 (bV c 3)))] 6:=by
 obtain ⟨w0,c4,du,w3,e9,fa,gy,hL,ki,oK,kj,lW,lX,nV⟩:=hw;have J:=P1 c.aQ.aR w0.2.2.1 w0.2.1;have fv:=w0.2.2.2.2.1;have gz:=w0.2.2.2.2.2.2.1;have aa:=P2 c.Queue kj oK;clear w0 c4 du w3 e9 fa gy oK kj lW lX nV;unfold a1;refine Gp bR Tryz.func60 rfl bR (by rfl) ?_;(repeat' first|refine bh J ?_|refine h0 (c.aQ.cD.map aB) ?_|refine h0 (c.aQ.bI.map encI) ?_|(refine dL [] (aa) (h:=?_))|(refine fi [] (aa) (h:=?_))|(refine tj (aa) (h:=?_))|(refine ay ?_;(and_intros <;> intros))|fail);refine cv (fun k:Nat=>⟨[(1,.ptr 0 0 0 0),(2,.ptr 1 0 0 0),(31,.ro (c.aq.map eo)),(32,I c.aq.length),(33,I k),(3,.own 3)],[(0,some (.box 51 [ab c.Client,I c.aQ.Next,.ro (c.aQ.aR.map bC),I c.aQ.c9,.ro (c.aQ.cD.map aB),.ro (c.aQ.bI.map encI),I c.cy.bj,I c.cy.dy,I c.cy.c0,I c.cy.Since,I c.di.Max,I c.di.bG,I c.eh.Max,I c.eh.bG,I c.gQ,I c.gR,I c.cN,.ro (c.aq.map eo),ab c.fT,.own 2,I c.dT,I c.gP,ab c.fj,I c.Code])),(1,some (.box 51 [ab false,I 0,aX,I 0,aX,aX,I 0,I 0,I 0,I 0,I 0,I 0,I 0,I 0,I 0,I 0,I 0,aX,ab false,aX,I 0,I 0,ab false,I 0])),(2,some (.row 111 7 (c.Queue.map aO))),(3,some (.ch 134 16 (cM 4 (c.aq.take k)))),(4,some (.row 5 1 (Ei c k 0))),(5,some (.row 5 1 (Ei c k 1))),(6,some (.row 5 1 (Ei c k 2))),(7,some (.row 5 1 (Ei c k 3)))],8,Tryz.f60.ntmps⟩)
  (fun k=>k<=c.aq.length) (fun k=>c.aq.length - k) 0 (cm _) ((iR (n:=3) (t:=3) 134 16 rfl rfl rfl).trans ((show cg _ _ _ (⟨[(1,.ptr 0 0 0 0),(2,.ptr 1 0 0 0),(31,.ro (c.aq.map eo)),(32,I c.aq.length),(33,I (0:Nat)),(3,.own 3)],[(0,some (.box 51 [ab c.Client,I c.aQ.Next,.ro (c.aQ.aR.map bC),I c.aQ.c9,.ro (c.aQ.cD.map aB),.ro (c.aQ.bI.map encI),I c.cy.bj,I c.cy.dy,I c.cy.c0,I c.cy.Since,I c.di.Max,I c.di.bG,I c.eh.Max,I c.eh.bG,I c.gQ,I c.gR,I c.cN,.ro (c.aq.map eo),ab c.fT,.own 2,I c.dT,I c.gP,ab c.fj,I c.Code])),(1,some (.box 51 [ab false,I 0,aX,I 0,aX,aX,I 0,I 0,I 0,I 0,I 0,I 0,I 0,I 0,I 0,I 0,I 0,aX,ab false,aX,I 0,I 0,ab false,I 0])),(2,some (.row 111 7 (c.Queue.map aO))),(3,some (.row 134 16 []))],4,Tryz.f60.ntmps⟩:aW) by(exact ba)).trans ((BV (id:=3) (e:=134) (s:=16) (l:=[]) rfl).trans ((Cr 5 1 rfl rfl).trans ((Cr 5 1 rfl rfl).trans ((Cr 5 1 rfl rfl).trans ((Cr 5 1 rfl rfl).trans fP))))))) ?_
 intro k ag;by_cases au:k<c.aq.length
 ·have hf:=ki _ (cc au);have az:=P3 (c.aq.getD k default).In.aD hf.2.1.2.2.1 hf.2.1.2.1;have aL:=hf.2.2.1;have aS:=hf.2.2.2.1;have bi:=hf.2.2.2.2.2.2.1;have cq:=hf.2.2.2.2.2.2.2.2.1;have Ej:∀ m,cM 4 (c.aq.take k)++[(aV dE (c.aq.getD k default)).set 5 (.own m)]=dB 5 (fun i=>.own (if i=k then m else 4+i)) ((c.aq.take (k+1)).map (aV dE)):=fun m=>XH au
  have yh:=ll 4 (c.aq.take k);rw[kO] at yh;clear ki;rcases (show k=0\/k=1\/k=2\/k=3 by omega) with rfl|rfl|rfl|rfl
  ·(repeat' first|refine bh az ?_|refine eP ((c.aq.getD 0 default).Read.map bm) ?_|refine h0 ((c.aq.getD 0 default).Out.Data.map bm) ?_|refine h0 ((c.aq.getD 0 default).Out.cO.map aB) ?_|refine h0 ((c.aq.getD 0 default).Out.cI.map aB) ?_|refine wK (dW:=[(aV dE (c.aq.getD 0 default)).set 5 (.own 10)]) (h:=?_)|(refine wL (r:=dB 5 (fun i=>.own (if i=0 then 10 else 4+i)) ((c.aq.take (0+1)).map (aV dE))) (Ej 10) ?_ ?_ (h:=?_);(exact Ek);(exact El))|(refine eF ?_;(and_intros <;> intros))|refine dS ?_|fail)
   all_goals first
    | (refine ⟨0+1,?_,?_,?_⟩;rotate_left 2;(exact jG [(0,0),(1,1),(2,2),(30,3),(10,4),(5,5),(6,6),(7,7)] rfl jH ⟨b2 (.inl rfl),⟨b2 (.inl rfl),⟨b2 (.inl rfl),⟨(lI rfl lJ (fun i hi=>Em)),⟨b2 (.inl rfl),⟨b2 (.inl rfl),⟨b2 (.inl rfl),⟨b2 (.inl rfl),trivial⟩⟩⟩⟩⟩⟩⟩⟩ rfl);(focus omega);(focus omega))
    | skip
  ·(repeat' first|refine bh az ?_|refine eP ((c.aq.getD 1 default).Read.map bm) ?_|refine h0 ((c.aq.getD 1 default).Out.Data.map bm) ?_|refine h0 ((c.aq.getD 1 default).Out.cO.map aB) ?_|refine h0 ((c.aq.getD 1 default).Out.cI.map aB) ?_|refine wK (dW:=[(aV dE (c.aq.getD 1 default)).set 5 (.own 10)]) (h:=?_)|(refine wL (r:=dB 5 (fun i=>.own (if i=1 then 10 else 4+i)) ((c.aq.take (1+1)).map (aV dE))) (Ej 10) ?_ ?_ (h:=?_);(exact Ek);(exact El))|(refine eF ?_;(and_intros <;> intros))|refine dS ?_|fail)
   all_goals first
    | (refine ⟨1+1,?_,?_,?_⟩;rotate_left 2;(exact jG [(0,0),(1,1),(2,2),(30,3),(4,4),(10,5),(6,6),(7,7)] rfl jH ⟨b2 (.inl rfl),⟨b2 (.inl rfl),⟨b2 (.inl rfl),⟨(lI rfl lJ (fun i hi=>Em)),⟨b2 (.inl rfl),⟨b2 (.inl rfl),⟨b2 (.inl rfl),⟨b2 (.inl rfl),trivial⟩⟩⟩⟩⟩⟩⟩⟩ rfl);(focus omega);(focus omega))
    | skip
  ·(repeat' first|refine bh az ?_|refine eP ((c.aq.getD 2 default).Read.map bm) ?_|refine h0 ((c.aq.getD 2 default).Out.Data.map bm) ?_|refine h0 ((c.aq.getD 2 default).Out.cO.map aB) ?_|refine h0 ((c.aq.getD 2 default).Out.cI.map aB) ?_|refine wK (dW:=[(aV dE (c.aq.getD 2 default)).set 5 (.own 10)]) (h:=?_)|(refine wL (r:=dB 5 (fun i=>.own (if i=2 then 10 else 4+i)) ((c.aq.take (2+1)).map (aV dE))) (Ej 10) ?_ ?_ (h:=?_);(exact Ek);(exact El))|(refine eF ?_;(and_intros <;> intros))|refine dS ?_|fail)
   all_goals first
    | (refine ⟨2+1,?_,?_,?_⟩;rotate_left 2;(exact jG [(0,0),(1,1),(2,2),(30,3),(4,4),(5,5),(10,6),(7,7)] rfl jH ⟨b2 (.inl rfl),⟨b2 (.inl rfl),⟨b2 (.inl rfl),⟨(lI rfl lJ (fun i hi=>Em)),⟨b2 (.inl rfl),⟨b2 (.inl rfl),⟨b2 (.inl rfl),⟨b2 (.inl rfl),trivial⟩⟩⟩⟩⟩⟩⟩⟩ rfl);(focus omega);(focus omega))
    | skip
  ·(repeat' first|refine bh az ?_|refine eP ((c.aq.getD 3 default).Read.map bm) ?_|refine h0 ((c.aq.getD 3 default).Out.Data.map bm) ?_|refine h0 ((c.aq.getD 3 default).Out.cO.map aB) ?_|refine h0 ((c.aq.getD 3 default).Out.cI.map aB) ?_|refine wK (dW:=[(aV dE (c.aq.getD 3 default)).set 5 (.own 10)]) (h:=?_)|(refine wL (r:=dB 5 (fun i=>.own (if i=3 then 10 else 4+i)) ((c.aq.take (3+1)).map (aV dE))) (Ej 10) ?_ ?_ (h:=?_);(exact Ek);(exact El))|(refine eF ?_;(and_intros <;> intros))|refine dS ?_|fail)
   all_goals first
    | (refine ⟨3+1,?_,?_,?_⟩;rotate_left 2;(exact jG [(0,0),(1,1),(2,2),(30,3),(4,4),(5,5),(6,6),(10,7)] rfl jH ⟨b2 (.inl rfl),⟨b2 (.inl rfl),⟨b2 (.inl rfl),⟨(lI rfl lJ (fun i hi=>Em)),⟨b2 (.inl rfl),⟨b2 (.inl rfl),⟨b2 (.inl rfl),⟨b2 (.inl rfl),trivial⟩⟩⟩⟩⟩⟩⟩⟩ rfl);(focus omega);(focus omega))
    | skip
 ·have ca:k=c.aq.length:=by omega
  subst ca;rw[List.take_length];(try refine ay ?_;and_intros <;> intros)
  all_goals first
   | (exact tc [(3,0),(2,1),(4,2),(5,3),(6,4),(7,5)] (.refl _) ⟨(lI rfl lJ (fun i hi=>(by rw[bY] at hi;rcases (show i=0\/i=1\/i=2\/i=3 by omega) with rfl|rfl|rfl|rfl <;> rfl))),⟨b2 (.inl rfl),⟨b2 (.inl rfl),⟨b2 (.inl rfl),⟨b2 (.inl rfl),⟨b2 (.inl rfl),trivial⟩⟩⟩⟩⟩⟩)
   | skip
end Go.Proofs.YtendheafcbickaaGreat
