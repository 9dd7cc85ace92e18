/-
  SEVERAL TEXTS IN ONE: each with its own comment.
-/
import Derived.Laws.Pointers
import Derived.Test.YtendheafcbickaaGreatCCnF
set_option linter.unusedVariables false
set_option linter.unusedSimpArgs false
set_option maxHeartbeats 16000000
namespace Go.Proofs.YtendheafcbickaaGreat
variable {T cX:TypeId} {e i id j k n0 s:Nat} {l:List (List V)} {x y:Operand}
section
open Go.RowKit
section
variable {P:Program} {G:List Nat} {o:Oper} {st:aW}
theorem j5 (ae:o.op = .binOp .eql T x y cX) (U:aJ st.env x=some (.ptr id i s j)) (aj:aJ st.env y=some (.lit (.pointer none))) (aY:P.underlying T=some (.pointer (P.pointee T))) :
  bu P G o st (ab false):=
 iP fun F base w0 ρ a w hH ax=>by
  obtain ⟨r,b,J,aa,az⟩:=pR (df ax U);have bk:=fO (df ax aj);refine ⟨_,.pure (.lit _ rfl),fun aF=>?_⟩;unfold execOp;rw[ae];simp only[];rw[az,bk];simp[eqGuard,binOp,Sem.run_bind,Sem.run_pure,run_equal_pointer_nil aF T _ aY]
theorem yx (ae:o.op = .binOp .neq T x y cX) (U:aJ st.env x=some (.ptr id i s j)) (aj:aJ st.env y=some (.lit (.pointer none))) (aY:P.underlying T=some (.pointer (P.pointee T))) :
  bu P G o st (ab true):=
 iP fun F base w0 ρ a w hH ax=>by
  obtain ⟨r,b,J,aa,az⟩:=pR (df ax U);have bk:=fO (df ax aj);refine ⟨_,.pure (.lit _ rfl),fun aF=>?_⟩;unfold execOp;rw[ae];simp only[];rw[az,bk];simp[eqGuard,binOp,Sem.run_bind,Sem.run_pure,run_equal_pointer_nil aF T _ aY]
theorem k6 (ae:o.op = .binOp .eql T x y cX) (U:aJ st.env x=some (.lit (.pointer none))) (aj:aJ st.env y=some (.lit (.pointer none))) (aY:P.underlying T=some (.pointer (P.pointee T))) :
  bu P G o st (ab true):=jX ae U aj (fun w=>by
   simp[eqGuard,binOp,Sem.run_bind,Sem.run_pure,run_equal_pointer_nil w T _ aY]) rfl
theorem L5 (ae:o.op = .binOp .neq T x y cX) (U:aJ st.env x=some (.lit (.pointer none))) (aj:aJ st.env y=some (.lit (.pointer none))) (aY:P.underlying T=some (.pointer (P.pointee T))) :
  bu P G o st (ab false):=jX ae U aj (fun w=>by
   simp[eqGuard,binOp,Sem.run_bind,Sem.run_pure,run_equal_pointer_nil w T _ aY]) rfl
def qb (v cH:V):Prop:=v=cH \/ (v=aX/\cH = .ro [])
theorem qb.rel {S:Nat->Prop} {w:World} {v cH:V} {u:Value} (h:qb v cH) (hr:gn S w v u):gn S w cH u:=by
 rcases h with rfl | ⟨rfl,rfl⟩
 ·exact hr
 ·cases hr
  exact .ro [] none 0 1 0 0 (fun _ _=>undef) (by simp) qN (by omega) (fun h=>by simp at h) (fun i hi=>by simp at hi) (fun i j hi=>by simp at hi) (fun i j hi=>by simp at hi)
theorem QG {dW:List (List V)} (hh:aM st.heap id=some (.row e s l)) (hlen:dW.length=l.length) (cw:∀ i,i<l.length->(bb dW i).length=(bb l i).length) (hw:∀ i j,i<l.length->j<(bb l i).length->qb (bw (bb l i) j) (bw (bb dW i) j)):cg P n0 st { st with heap:=(id,some (.row e s dW)) :: st.heap }:=fun F base w0 ρ a w hH ax=>by
 obtain ⟨ai,v,xs,J,aa,az,bk⟩:=hH.cJ _ _ hh
 have hS:∀ b,bs F ρ st.heap b->bs F ρ ((id,some (.row e s dW)) :: st.heap) b:=fun b h=>⟨h.1,fun j B u an ae hu=>by
  rw[cl] at an;split at an
  ·rename_i aI;subst aI;exact h.2 _ _ u hh rfl hu
  ·exact h.2 j B u an ae hu⟩
 refine ⟨ρ,⟨⟨hH.below,hH.fl,hH.sup,fun i j B bd u dD b an b0 ae dK hu c2 hb cG=>?_,fun j B an=>?_⟩,hH.dX⟩,ax.mono (dl.refl _ _) (fun b h _=>hS b h) (fun _ _ h=>h),fun _ _=>rfl⟩
 ·rw[cl] at an b0;split at an
  ·rename_i aI;subst aI;split at b0
   ·rename_i a7;first|exact a7|exact a7.symm
   ·exact hH.inj _ j _ bd u dD b hh b0 rfl dK hu c2 hb cG
  ·split at b0
   ·rename_i a7;subst a7;exact hH.inj i _ B _ u dD b an hh ae rfl hu c2 hb cG
   ·exact hH.inj i j B bd u dD b an b0 ae dK hu c2 hb cG
 ·rw[cl] at an;split at an
  ·rename_i aI;subst aI;injection an with an;subst an;refine ⟨ai,v,xs,J,⟨by rw[hlen];exact aa.1,aa.2⟩,fun i hi=>by rw[hlen] at hi;rw[cw i hi];exact az i hi,fun i k hi ag=>?_⟩;rw[hlen] at hi;obtain ⟨u,hu,ar,ae⟩:=bk i k hi ag;exact⟨u,hu,((hw i k hi (by rw[az i hi];exact ag)).rel ar).mono (dl.refl _ _) (fun b h _=>hS b h),ae⟩
  ·exact(hH.cJ j B an).mono (dl.refl _ _) (fun b h _=>hS b h) (fun _ _ h=>h) (fun _ _ _ _ _ _=>rfl)
theorem LW {c hM:List V} (hh:aM st.heap id=some (.row e s (l++[c]))) (hc:∀ j,j<c.length->qb (bw c j) (bw hM j)) (e7:hM.length=c.length):cg P n0 st { st with heap:=(id,some (.row e s (l++[hM]))) :: st.heap }:=by
 refine QG hh (by simp) (fun i hi=>?_) (fun i j hi ad=>?_)
 ·rw[mf,mf];split
  ·rfl
  ·have:i - l.length=0:=by simp at hi;omega
   rw[this];exact e7
 ·rw[mf] at ad ⊢;rw[mf];split
  ·exact .inl rfl
  ·rename_i h;have:i - l.length=0:=by simp at hi;omega
   rw[this] at ad ⊢;rw[ah h] at ad;exact hc j ad
end
end
section
set_option maxRecDepth 100000
attribute [local irreducible] cE a6 bu GStep Fn cg bf cA
theorem P2 (l:List bo) (hw:∀ y,y ∈ l->dx y) (ao:l.length * 88<=140737488351232):cA Tryz.prog 62 [.ro (l.map aO)] [] 0 (.own 0) [(0,some (.row 111 7 (l.map aO)))] 1:=by
 refine aH Tryz.func62 ?_;(try refine ay ?_;and_intros <;> intros);refine cv (fun k:Nat=>⟨[(6,.ro (l.map aO)),(7,I l.length),(8,I k),(3,.own 0)],[(0,some (.row 111 7 ((l.take k).map aO)))],1,Tryz.f62.ntmps⟩)
  (fun k=>k<=l.length) (fun k=>l.length - k) 0 (cm _) ((iR (n:=0) (t:=3) 111 7 rfl rfl rfl).trans dV) ?_
 intro k ag;by_cases au:k<l.length
 ·have hf:=hw _ (cc au);have hr:=hf.2.2.2.2.1;have hd:=hf.2.2.2.2.2.2;(refine Jg ?_;and_intros <;> intros)
  all_goals (exact⟨k+1,(by omega),au,ba⟩)
 ·have ca:k=l.length:=by omega
  subst ca;rw[List.take_length];(try refine ay ?_;and_intros <;> intros)
  all_goals (exact qR)
theorem NI (l:List bo) (hw:∀ y,y ∈ l->dx y) (ao:l.length * 88<=140737488351232):Fn Tryz.prog 62 [.ro (l.map aO)] (.ro (l.map aO)):=by
 refine aH Tryz.func62 ?_;(try refine ay ?_;and_intros <;> intros);refine cv (fun k:Nat=>⟨[(6,.ro (l.map aO)),(7,I l.length),(8,I k),(3,.own 0)],[(0,some (.row 111 7 ((l.take k).map aO)))],1,Tryz.f62.ntmps⟩)
  (fun k=>k<=l.length) (fun k=>l.length - k) 0 (cm _) ((iR (n:=0) (t:=3) 111 7 rfl rfl rfl).trans dV) ?_
 intro k ag;by_cases au:k<l.length
 ·have hf:=hw _ (cc au);have hr:=hf.2.2.2.2.1;have hd:=hf.2.2.2.2.2.2;(refine Jg ?_;and_intros <;> intros)
  all_goals (exact⟨k+1,(by omega),au,ba⟩)
 ·(try refine ay ?_;and_intros <;> intros)
  all_goals (refine bX (hr:=?_);rw[j9 (by omega)])
theorem P1 (l:List eN) (hw:∀ y,y ∈ l->ji y) (ao:l.length * 48<=140737488351232):Fn Tryz.prog 125 [.ro (l.map bC)] (.ro (l.map bC)):=by
 refine aH Tryz.func125 ?_;(try refine ay ?_;and_intros <;> intros);refine cv (fun k:Nat=>⟨[(6,.ro (l.map bC)),(7,I l.length),(8,I k),(3,.own 0)],[(0,some (.row 198 4 ((l.take k).map bC)))],1,Tryz.f125.ntmps⟩)
  (fun k=>k<=l.length) (fun k=>l.length - k) 0 (cm _) ((iR (n:=0) (t:=3) 198 4 rfl rfl rfl).trans dV) ?_
 intro k ag;by_cases au:k<l.length
 ·have hf:=hw _ (cc au);have J:=NI (l.getD k default).Frames hf.2.2.2.2 hf.2.2.2.1;(repeat' first|refine bh J ?_|refine eP ((l.take (k+1)).map bC) ?_|(refine ay ?_;(and_intros <;> intros))|fail)
  all_goals (exact⟨k+1,(by omega),au,ba⟩)
 ·(try refine ay ?_;and_intros <;> intros)
  all_goals (refine bX (hr:=?_);rw[j9 (by omega)])
theorem P3 (l:List bA) (hw:∀ y,y ∈ l->iY y) (ao:l.length * 32<=140737488351232):Fn Tryz.prog 126 [.ro (l.map b5)] (.ro (l.map b5)):=by
 refine aH Tryz.func126 ?_;(try refine ay ?_;and_intros <;> intros);refine cv (fun k:Nat=>⟨[(6,.ro (l.map b5)),(7,I l.length),(8,I k),(3,.own 0)],[(0,some (.row 235 2 ((l.take k).map b5)))],1,Tryz.f126.ntmps⟩)
  (fun k=>k<=l.length) (fun k=>l.length - k) 0 (cm _) ((iR (n:=0) (t:=3) 235 2 rfl rfl rfl).trans dV) ?_
 intro k ag;by_cases au:k<l.length
 ·have hf:=hw _ (cc au);have hd:=hf.2;(repeat' first|refine eP ((l.take (k+1)).map b5) ?_|refine h0 ((l.getD k default).Data.map bm) ?_|(refine ay ?_;(and_intros <;> intros))|fail)
  all_goals first|exact Bl|skip
 ·(try refine ay ?_;and_intros <;> intros)
  all_goals (refine bX (hr:=?_);rw[j9 (by omega)])
def a1 (c:aG) (L Q:V):List V:=[ab c.Client,I c.aQ.Next,.ro (c.aQ.aR.map bC),I c.aQ.c9,.ro (c.aQ.cD.map aB),.ro (c.aQ.bI.map encI),I c.cy.bj,I c.cy.dy,I c.cy.c0,I c.cy.Since,I c.di.Max,I c.di.bG,I c.eh.Max,I c.eh.bG,I c.gQ,I c.gR,I c.cN,L,ab c.fT,Q,I c.dT,I c.gP,ab c.fj,I c.Code]
theorem C5 (c:aG) (hw:fw c):cA Tryz.prog 60 [.agg (cj c)] [] 0 (.agg (a1 c (.own 0) (.own 1))) [(0,some (.row 134 16 (c.aq.map eo))),(1,some (.row 111 7 (c.Queue.map aO)))] 2:=by
 obtain ⟨w0,c4,du,w3,e9,fa,gy,hL,ki,oK,kj,lW,lX,nV⟩:=hw;have J:=P1 c.aQ.aR w0.2.2.1 w0.2.1;have fv:=w0.2.2.2.2.1;have gz:=w0.2.2.2.2.2.2.1;have aa:=P2 c.Queue kj oK;clear w0 c4 du w3 e9 fa gy oK kj lW lX nV;unfold a1;refine aH Tryz.func60 ?_;(repeat' first|refine bh J ?_|refine h0 (c.aQ.cD.map aB) ?_|refine h0 (c.aQ.bI.map encI) ?_|(refine dL [] (aa) (h:=?_))|(refine fi [] (aa) (h:=?_))|(refine tj (aa) (h:=?_))|(refine ay ?_;(and_intros <;> intros))|fail);refine cv (fun k:Nat=>⟨[(1,.ptr 0 0 0 0),(2,.ptr 1 0 0 0),(31,.ro (c.aq.map eo)),(32,I c.aq.length),(33,I k),(3,.own 3)],[(0,some (.box 51 [ab c.Client,I c.aQ.Next,.ro (c.aQ.aR.map bC),I c.aQ.c9,.ro (c.aQ.cD.map aB),.ro (c.aQ.bI.map encI),I c.cy.bj,I c.cy.dy,I c.cy.c0,I c.cy.Since,I c.di.Max,I c.di.bG,I c.eh.Max,I c.eh.bG,I c.gQ,I c.gR,I c.cN,.ro (c.aq.map eo),ab c.fT,.own 2,I c.dT,I c.gP,ab c.fj,I c.Code])),(1,some (.box 51 [ab false,I 0,aX,I 0,aX,aX,I 0,I 0,I 0,I 0,I 0,I 0,I 0,I 0,I 0,I 0,I 0,aX,ab false,aX,I 0,I 0,ab false,I 0])),(2,some (.row 111 7 (c.Queue.map aO))),(3,some (.row 134 16 ((c.aq.take k).map eo)))],4,Tryz.f60.ntmps⟩)
  (fun k=>k<=c.aq.length) (fun k=>c.aq.length - k) 0 (cm _) ((iR (n:=3) (t:=3) 134 16 rfl rfl rfl).trans fP) ?_
 intro k ag;by_cases au:k<c.aq.length
 ·have hf:=ki _ (cc au);have az:=P3 (c.aq.getD k default).In.aD hf.2.1.2.2.1 hf.2.1.2.1;have aL:=hf.2.2.1;have aS:=hf.2.2.2.1;have bi:=hf.2.2.2.2.2.2.1;have cq:=hf.2.2.2.2.2.2.2.2.1;(repeat' first|refine bh az ?_|refine eP ((c.aq.take (k+1)).map eo) ?_|refine h0 ((c.aq.getD k default).Read.map bm) ?_|refine h0 ((c.aq.getD k default).Out.Data.map bm) ?_|refine h0 ((c.aq.getD k default).Out.cO.map aB) ?_|refine h0 ((c.aq.getD k default).Out.cI.map aB) ?_|(refine ay ?_;(and_intros <;> intros))|fail)
  all_goals first|exact Bl|skip
 ·have ca:k=c.aq.length:=by omega
  subst ca;rw[List.take_length];(try refine ay ?_;and_intros <;> intros)
  all_goals first|exact nY|skip
def jj (id:Int):cS:=⟨id,⟨0,[],-1,300⟩,[],false,false,⟨[],false,0,300,[],[],false,false⟩⟩
def kJ (c:aG):aG:={ c with aq:=c.aq++[jj c.cN],cN:=c.cN+1 }
noncomputable def acJ (c:aG):aG×Int×Int:=
 if nj c=0 then(if c.fj=true then(default,0,17) else if c.Client=false then(default,0,2) else if c.cN >= c.gQ\/c.aq.length=4 then(default,0,8) else(kJ c,c.cN,0)) else(default,0,9)
def acK (r:aG×Int×Int):V:=.bN [.agg (cj r.1),I r.2.1,I r.2.2]
def mH (id:Int):List V:=[I id,I 0,aX,I (-1),I 300,aX,ab false,ab false,aX,ab false,I 0,I 300,aX,aX,ab false,ab false]
theorem Y7 (id:Int):∀ j,j<(mH id).length->qb (bw (mH id) j) (bw (eo (jj id)) j):=by
 intro j ad;have ad:j<16:=ad
 match j,ad with
 | 0,_|1,_|3,_|4,_|6,_|7,_|9,_|10,_|11,_|14,_|15,_=>exact .inl rfl
 | 2,_|5,_|8,_|12,_|13,_=>exact .inr ⟨rfl,rfl⟩
 | n+16,h=>omega
def b7:List cS->Int->Nat
 | [],_=>0
 | l :: r,id=>if l.Id=id then 0 else b7 r id+1
theorem q7:∀ (l:List cS) (id:Int),b7 l id<=l.length
 | [],_=>e4 _
 | l :: r,id=>by
  unfold b7;split
  ·simp
  ·have:=q7 r id;simp;omega
theorem DC:∀ (l:List cS) (id:Int),b7 l id<l.length->(l.getD (b7 l id) default).Id=id
 | [],_,h=>by simp[b7] at h
 | l :: r,id,h=>by
  unfold b7 at h ⊢;split
  ·rename_i e;simpa using e
  ·rename_i e;rw[ah e] at h;have:=DC r id (by simpa using h);simpa using this
theorem Il:∀ (l:List cS) (id:Int) (k:Nat),k<b7 l id->(l.getD k default).Id≠id
 | [],_,k,h=>by simp[b7] at h
 | l :: r,id,k,h=>by
  unfold b7 at h;split at h
  ·omega
  ·rename_i e
   cases k with
   | zero=>simpa using e
   | succ k=>simpa using Il r id k (by omega)
theorem LX {l:List cS} {id:Int} (ag:k<l.length) (J:k<=b7 l id) (aa:(l.getD k default).Id=id):b7 l id=k:=by
 rcases Nat.lt_or_ge k (b7 l id) with h|h
 ·exact absurd aa (Il l id k h)
 ·omega
theorem LY {l:List cS} {id:Int} (ag:k<l.length) (J:k<=b7 l id) (aa:¬ (l.getD k default).Id=id):k+1<=b7 l id:=by
 rcases Nat.lt_or_ge k (b7 l id) with h|h
 ·exact h
 ·have e:b7 l id=k:=by omega
  exact absurd (e ▸ DC l id (by omega)) aa
def s7 (l:List cS) (id:Int):V:=if b7 l id<l.length then .ptr 1 (b7 l id) 16 0 else .lit (.pointer none)
def Er (a:Nat) (l:List UInt8):Nat:=l.foldl (fun a c=>a * 256+c.toNat) a
end
end Go.Proofs.YtendheafcbickaaGreat
