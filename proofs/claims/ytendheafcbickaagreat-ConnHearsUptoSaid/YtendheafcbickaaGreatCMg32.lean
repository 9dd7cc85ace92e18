/-
  SEVERAL TEXTS IN ONE: each with its own comment.
-/
import Derived.Test.YtendheafcbickaaGreatCMg30
import Derived.Test.YtendheafcbickaaGreatCMg23
import Derived.Shelf.Sort.Plain
import Derived.Sort.OwnSortedInts
set_option linter.unusedVariables false
set_option linter.unusedSimpArgs false
set_option maxHeartbeats 16000000
namespace Go.Proofs.YtendheafcbickaaGreat
variable {G:List Nat} {J:List (Nat×Option aT)} {L:List bA} {T bB d e id j n s t:Nat} {a b off to:Int} {cs:List V} {data:List UInt8} {fn:Func} {g:dQ} {l:List aK} {np:TypeId} {p q:bA} {r:List (List V)} {st:aW} {v:V} {x y:Operand}
section
open Go.RowKit
section
variable {P:Program} {o:Oper} {n0:Nat} {ops:List Oper} {rest:List Oper} {env:List (Nat×V)} {heap:List (Nat×Option aT)} {next af:Nat} {Q:aW->Prop}
theorem wK {len:Nat} {parts:Array (Nat×Operand)} {c5:List (Nat×List V)} {l dW:List (List V)} (ae:o.op = .buildSlice t len parts:=by rfl) (ht:P.underlying t=some (.slice e):=by rfl) (aw:(dr P e).getD 0=s:=by rfl) (ar:mo env parts.toList=some c5:=by rfl) (ao:r0 P e len c5=some l:=by rfl) (hv:lc l dW:=by repeat'(first|exact lc.nil|apply lc.cons|exact Norm.nil|apply Norm.cons)) (av:b1 env ops o.guard=some true:=by rfl) (hd:o.dst=some d:=by rfl) (aN:Nat.blt d af=true:=by rfl) (hlen:Nat.blt 0 len=true:=by rfl) (jO:Nat.ble (len * (dr P e).getD 0) 16777216=true:=by rfl) (hn0:Nat.ble n0 next=true:=by rfl) (h:a6 P n0 ops.toArray rest ⟨(d,.own next) :: env,(next,some (.ch e s dW)) :: heap,next+1,af⟩ Q):a6 P n0 ops.toArray (o :: rest) ⟨env,heap,next,af⟩ Q:=by
 have e:=hv.eq;subst e;subst aw;exact kn av (qj (st:=⟨env,heap,next,af⟩) (bM hn0) (Mb (st:=⟨env,heap,next+1,af⟩) ae hd aN ht ar ao hlen jO)) h
theorem wL {by_ pA:Nat} {l m:List (List V)} (hr:l++m=r) (fp:(l.length+m.length) * by_<=140737488355328) (h63:l.length+m.length<=9223372036854775807) (ae:o.op = .call { callee:=.builtin .append,args:=#[x,y],argTypes:=#[t,t] }:=by rfl) (U:aJ env x=some (.own id):=by rfl) (hh:aM heap id=some (.ch e s l):=by rfl) (aj:aJ env y=some (.own pA):=by rfl) (uW:aM heap pA=some (.ch e s m):=by rfl) (ht:P.underlying t=some (.slice e):=by rfl) (aw:dr P e=some s:=by rfl) (hb:jw P e=some by_:=by rfl) (aU:∃ z,gZ P e=some z/\z.length=s:=by exact⟨_,rfl,rfl⟩) (av:b1 env ops o.guard=some true:=by rfl) (hd:o.dst=some d:=by rfl) (aN:Nat.blt d af=true:=by rfl) (hn0:Nat.ble n0 next=true:=by rfl) (h:a6 P n0 ops.toArray rest ⟨(d,.own next) :: env,(next,some (.ch e s r)) :: (id,none) :: heap,next+1,af⟩ Q):a6 P n0 ops.toArray (o :: rest) ⟨env,heap,next,af⟩ Q:=by
 subst hr;exact kn av (qj (st:=⟨env,heap,next,af⟩) (bM hn0) (Mc (st:=⟨env,heap,next+1,af⟩) ae hd aN U hh aj uW ht aw hb aU fp h63)) h
theorem jP {T:TypeId} {i:Nat} {l:List (List V)} {vs:List V} (hi:i<l.length) (hr:l.set i (setAt j vs (bb l i))=r) (ae:o.op = .store T x y:=by rfl) (av:b1 env ops o.guard=some true:=by rfl) (hd:o.dst=none:=by rfl) (U:aJ env x=some (.ptr id i s j):=by rfl) (hh:aM heap id=some (.ch e s l):=by rfl) (aj:aJ env y=some v:=by rfl) (hf:flat v=some vs:=by rfl) (aY:dr P T=some vs.length:=by rfl) (ao:Nat.ble (j+vs.length) s=true:=by rfl) (h:a6 P n0 ops.toArray rest ⟨env,(id,some (.ch e s r)) :: heap,next,af⟩ Q):a6 P n0 ops.toArray (o :: rest) ⟨env,heap,next,af⟩ Q:=by
 subst hr;exact kn av (Md (st:=⟨env,heap,next,af⟩) ae hd U hh hi aj hf aY ao) h
end
section
variable {P:Program} {o:Oper} {af aA k bn:Nat} {ops:List Oper} {W:Nat->Nat->Bool} {rest:List Oper} {env:List (Nat×V)} {heap:List (Nat×Option aT)} {Q:aW->Prop}
theorem Gl {et:Nat} {m:Operand} {q:Option IntKind} {key z r:Value} {es:List (Value×Value)} (hr:(fU key es).getD z=r) (ae:o.op = .lookup T m x false:=by rfl) (hm:aJ (bt (looks ops o) env) m=some (.own id):=by rfl) (hh:aM heap id=some (.gF q es):=by rfl) (U:aJ (bt (looks ops o) env) x=some (.lit key):=by rfl) (hq:tb P T=some (q,et):=by rfl) (ag:iA q key=true:=by rfl) (aU:wM P et=some z:=by rfl) (av:b1 (bt (looks ops o) env) ops o.guard=some true:=by rfl) (hd:o.dst=some d:=by rfl) (aN:Nat.blt d af=true:=by rfl) (Gm:k+1=bn:=by(simp only[Nat.reduceAdd];rfl)) (hb:Nat.ble aA k=true:=by rfl) (ak:jQ ops W aA (k - aA) id=true:=by kernel_rfl) (h:bf P af aA ops W bn rest ((d,.lit r) :: env) heap Q):bf P af aA ops W k (o :: rest) env heap Q:=by
 obtain ⟨kt,J,aa⟩:=Cm hq;subst hr;exact Gn av hd aN hb Gm hh ak (fun N=>by simpa using Tu (st:=⟨bt (looks ops o) env,[(id,some (.gF q es))],N,af⟩) (G:=[]) ae hm (by simp[aM]) U J aa ag aU) h
end
theorem Me {inv:Nat->Option Nat} {heap:List (Nat×Option aT)} {v cH:V} (ak:e6 inv heap v=some cH):∀ {x:List V} {c:Nat},x.all hQ=true->e6.me inv heap (x.set c v)=some (x.set c cH)
 | [],_,_=>rfl
 | y :: x,0,h=>by
  simp only[List.all_cons,fM] at h;simp only[List.set,e6.me,ak,BN h.2]
 | y :: x,c+1,h=>by
  simp only[List.all_cons,fM] at h;simp only[List.set,e6.me,Mf h.1,Me ak h.2]
section
variable {P:Program} {n0:Nat}
def Mg (P:Program) (fn:Func) (eW:Nat) (r:V) (J:List (Nat×Option aT)) (bB:Nat) (e:Exit) (st:aW):Prop:=
 ∃ _:e = .ret\/e = .normal,∃ v gm L,r1 P st fn.results.toList=some v/\r2 eW bB L=true/\e6 (gf L) st.heap v=some gm /\ dt gm r/\wN L st.heap J
theorem Gp {f:FuncId} {c:Code} {args:List V} {ai:List (Nat×Option aT)} {eW:Nat} {r:V} (bP:q8 P f=true) (hf:P.funcs[f]? = some fn) (hb:fn.body=some c) (hn:Nat.ble args.length fn.ntmps=true) (ag:Nat.ble eW bB=true) (h:cE P eW c ⟨q9 0 args,ai,eW,fn.ntmps⟩ (Mg P fn eW r J bB)):cA P f args ai eW r J bB:=by
 refine ⟨bP,bM ag,fun F base w0 ρ w fQ cZ hH iT=>calls_of_wp hf hb ?_⟩;have hn:=bM hn;have ax:e0 ρ (bs F ρ ai) w fn.ntmps (q9 0 args) { tmps:=fQ++Array.replicate (fn.ntmps - fQ.size) undef,defers:=[] }:=by
  refine ⟨by simp;omega,rfl,fun t v ak=>?_⟩;obtain ⟨_,aa,rfl⟩:=Cn 0 args t v ak;rw[Nat.sub_zero] at *;have:=iT t aa;have e:(fQ++Array.replicate (fn.ntmps - fQ.size) undef).getD t undef=fQ.getD t undef:=by
   simp[Array.getElem?_append,show t<fQ.size by omega]
  rw[e];exact this
 refine wp_mono (h F base w0 ρ _ w hH ax) ?_;rintro e hx aF ⟨bl,bq,⟨he,v,gm,L,ak,cw,hr,p2,Gq⟩,n5,aa,az⟩;obtain ⟨u,g1,g2⟩:=Gr (fn:=fn) n5 aa ak;have lY:=Co cw;have hh:=Cp Gq;have r3:=p2.rel (Cq lY n5 hh g2 hr);rcases he with rfl|rfl
 ·exact⟨aa.defers,u,g1,u,_,rfl,Gs lY n5 hh,r3,fun id hid=>(qk lY (lY.low hid)).trans (az id hid)⟩
 ·exact⟨aa.defers,u,g1,u,_,rfl,Gs lY n5 hh,r3,fun id hid=>(qk lY (lY.low hid)).trans (az id hid)⟩
theorem tc {r gm:V} {e:Exit} (L:List (Nat×Nat)) (hr:dt gm r) (hh:wN L st.heap J) (he:e = .ret\/e = .normal:=by first|exact .inl rfl|exact .inr rfl) (ak:r1 P st fn.results.toList=some v:=by rfl) (cw:r2 n0 bB L=true:=by rfl) (aw:e6 (gf L) st.heap v=some gm:=by rfl):Mg P fn n0 r J bB e st:=
 ⟨he,v,gm,L,ak,cw,aw,hr,hh⟩
theorem b2 {L:List (Nat×Nat)} {heap:List (Nat×Option aT)} {B bd:aT} (aa:pg (gf L) heap B bd) (h:aM heap (ic L id)=some B:=by rfl) (az:gf L (ic L id)=some id:=by rfl):gf L (ic L id)=some id /\ ∃ B,aM heap (ic L id)=some B/\pg (gf L) heap B bd:=⟨az,B,h,aa⟩
theorem Cr (e s:Nat) (ai:Nat.blt 0 s=true) (hn0:Nat.ble n0 st.next=true):cg P n0 st { st with heap:=(st.next,some (.row e s [])) :: st.heap,next:=st.next+1 }:=fun F base w0 ρ a w hH ax=>by
 have fY:ρ st.next=none:=ql hH.sup (e4 _)
 have Mh:∀ id u,ρ id=some u->jZ ρ st.next (.slice none 0 0) id=some u:=fun id u h=>by rw[jd _ _ (fun e=>by rw[e,fY] at h;cases h)];exact h
 have oG:∀ id B,aM ((st.next,some (.row e s [])) :: st.heap) id=some B->(id=st.next/\B = .row e s [])\/(id≠st.next/\aM st.heap id=some B):=fun id B h=>by
  rw[cl] at h;split at h
  ·rename_i q;injection h with h;exact .inl ⟨q.symm,h.symm⟩
  ·rename_i q;exact .inr ⟨fun e=>q e.symm,h⟩
 have hS:∀ b,bs F ρ st.heap b->bs F (jZ ρ st.next (.slice none 0 0)) ((st.next,some (.row e s [])) :: st.heap) b:=fun b h=>⟨h.1,fun id B u an ae hu hb=>by
  rcases oG id B an with⟨rfl,_⟩ | ⟨ct,an⟩
  ·rw[gO] at hu;injection hu with hu;subst hu;cases hb
  ·rw[jd _ _ ct] at hu;exact h.2 id B u an ae hu hb⟩
 refine ⟨jZ ρ st.next (.slice none 0 0),⟨⟨hH.below,hH.fl,fun id u hu=>?_,fun id dk B bd u dD b an b0 ae dK hu c2 hb cG=>?_,fun id B an=>?_⟩,hH.dX⟩,⟨ax.size,ax.defers,fun t v ak=>(ax.slot t v ak).mono (dl.refl _ _) (fun b h _=>hS b h) Mh⟩,fun id hid=>?_⟩
 ·by_cases q:id=st.next
  ·subst q;rw[gO] at hu;injection hu with hu;subst hu;exact⟨Nat.lt_succ_self _,rfl⟩
  ·rw[jd _ _ q] at hu;have:=hH.sup id u hu;exact⟨Nat.lt_succ_of_lt this.1,this.2⟩
 ·rcases oG id B an with⟨rfl,_⟩ | ⟨ct,an⟩
  ·rw[gO] at hu;injection hu with hu;subst hu;cases hb
  ·rcases oG dk bd b0 with⟨rfl,_⟩ | ⟨Cs,b0⟩
   ·rw[gO] at c2;injection c2 with c2;subst c2;cases cG
   ·rw[jd _ _ ct] at hu;rw[jd _ _ Cs] at c2;exact hH.inj _ _ _ _ _ _ b an b0 ae dK hu c2 hb cG
 ·rcases oG id B an with⟨rfl,rfl⟩ | ⟨ct,an⟩
  ·exact⟨bM ai,.slice none 0 0,[],gO _ _ _,⟨⟨by simp,.inl ⟨rfl,rfl⟩⟩,fun b hb=>by cases hb⟩,fun i hi=>by simp at hi,fun i j hi=>by simp at hi⟩
  ·exact(hH.cJ id B an).mono (dl.refl _ _) (fun b h _=>hS b h) Mh (fun _ _ _ _ _ _=>rfl)
 ·have:=bM hn0;exact jd _ _ (by omega)
end
end
section
set_option maxRecDepth 100000
attribute [local irreducible] cE a6 bu GStep Fn cg bf
def j2:Option (List bA×bA)->bA->Option (List bA×bA)
 | none,p=>some ([],p)
 | some (L,q),p=>if q.aP+q.Data.length=p.aP then some (L,⟨q.aP,q.Data++p.Data⟩) else some (L++[q],p)
def hJ:Option (List bA×bA)->List bA->Option (List bA×bA)
 | x,[]=>x
 | x,p :: l=>hJ (j2 x p) l
theorem FC (h:q.aP+q.Data.length=p.aP):j2 (some (L,q)) p=some (L,⟨q.aP,q.Data++p.Data⟩):=al h
theorem FD (h:¬ q.aP+q.Data.length=p.aP):j2 (some (L,q)) p=some (L++[q],p):=ah h
def gI:Option (List bA×bA)->List bA
 | none=>[]
 | some (L,q)=>L++[q]
def h6 (l:List bA):List bA:=gI (hJ none l)
def eL:List bA->Nat
 | []=>0
 | p :: l=>p.Data.length+eL l
def ie (p:bA):Prop:=0<=p.aP/\p.aP+p.Data.length<=4611686018427387903
noncomputable def wO (l:List bA) (k:Nat):Option (List bA×bA)->aW
 | none=>⟨[(7,.ro (l.map b5)),(8,I l.length),(9,I k),(3,.own 0)],[(0,some (.ch 235 2 []))],1,Tryz.f252.ntmps⟩
 | some (L,q)=>⟨[(7,.ro (l.map b5)),(8,I l.length),(9,I k),(3,.own 0)],[(0,some (.ch 235 2 (L.map b5++[[I q.aP,.own 1]]))),(1,some (.row 5 1 (q.Data.map bm)))],2,Tryz.f252.ntmps⟩
def wP (l:List bA) (k:Nat):Option (List bA×bA)->Prop
 | none=>k=0/\eL (l.drop k)<=140737488355328
 | some (L,q)=>L.length+1<=k/\ie q/\q.Data.length+eL (l.drop k)<=140737488355328
theorem Mi (x:bA):(b5 x).all hQ=true/\(b5 x).length=2:=⟨rfl,rfl⟩
theorem map_pure (L:List bA):∀ x ∈ L.map b5,x.all hQ=true:=by
 intro x U;obtain ⟨y,_,rfl⟩:=List.mem_map.1 U;rfl
theorem td :bb (L.map b5++[cs]) L.length=cs:=by
 rw[mf,bY,ah (by omega),ra];rfl
theorem Gt {ds:List V}:(L.map b5++[cs]).set L.length ds=L.map b5++[ds]:=by
 have:=Ll (l:=L.map b5) (cs:=cs) (ds:=ds);rwa [bY] at this
theorem te {P:Program} {o:Oper} {t:TypeId} {e:TypeId} {l:List (List V)} (ae:o.op = .call { callee:=.builtin .len,args:=#[x],argTypes:=#[t] }) (U:aJ st.env x=some (.own id)) (hh:aM st.heap id=some (.ch e s l)) (ht:P.underlying t=some (.slice np)) (hn:l.length=n):bu P G o st (I n):=by
 subst hn;exact Tv ae U hh ht
theorem Gu {P:Program} {o:Oper} {t:TypeId} {e:TypeId} {l:List (List V)} (ae:o.op = .call { callee:=.builtin .len,args:=#[x],argTypes:=#[t] }) (U:aJ st.env x=some (.own id)) (hh:aM st.heap id=some (.row e s l)) (ht:P.underlying t=some (.slice np)) (hn:l.length=n):bu P G o st (I n):=by
 subst hn;exact Mj ae U hh ht
theorem Mk (l:List bA) (ao:l.length * 32<=140737488351232) (hw:∀ y,y ∈ l->ie y) (aU:eL l<=140737488355328):Fn Tryz.prog 252 [.ro (l.map b5)] (.ro ((h6 l).map b5)):=by
 have hlen:l.length<=4398046510976:=by omega
 refine aH Tryz.func252 ?_;(try refine ay ?_;and_intros <;> intros);refine cv (fun x:Nat×Option (List bA×bA)=>wO l x.1 x.2)
  (fun x=>x.1<=l.length/\hJ x.2 (l.drop x.1)=hJ none l/\wP l x.1 x.2) (fun x=>l.length - x.1) (0,none) ⟨cm _,rfl,rfl,aU⟩
  (((iR (n:=0) (t:=3) 235 2 rfl rfl rfl).trans (BV (id:=0) rfl)).trans dV) ?_
 rintro ⟨k,x⟩ ⟨ag,hm,ae⟩
 cases x with
 | none=>
  unfold wP at ae;dsimp only[wO] at *;obtain ⟨qZ,aU⟩:=ae;subst qZ;by_cases au:0<l.length
  ·have ar:=hw _ (cc au);rw[drop_cons au] at hm aU;unfold eL at aU;unfold ie at ar;(repeat' first|refine cb (hq:=te (n:=0) rfl rfl rfl rfl rfl) (h:=?_)|refine eP ((l.getD 0 default).Data.map bm) ?_|refine Ml (h:=?_)|(refine Mm rfl ?_ ?_ (h:=?_);(exact Gv);(exact Gw))|(refine eF ?_;(and_intros <;> intros))|refine dS ?_|fail)
   all_goals (refine ⟨(0+1,some ([],l.getD 0 default)),b4,⟨au,hm,(by unfold wP ie;dsimp only;exact⟨e4 _,ar,aU⟩)⟩,?_⟩)
   dsimp only[wO];exact jG [(32,0),(29,1)] rfl jH (And.intro ⟨rfl,_,rfl,p3 (l:=[]) (by simp) rfl⟩ (And.intro ⟨rfl,_,rfl,.inl rfl⟩ True.intro)) rfl
  ·have lR:l=[]:=pj (by omega);subst lR;refine gH (wu (id:=0) rfl (fun i j hi=>absurd hi (Nat.not_lt_zero _))) ?_;(try refine ay ?_;and_intros <;> intros)
   all_goals (refine bX (hr:=?_);rfl)
 | some y=>
  obtain ⟨L,q⟩:=y;unfold wP at ae;dsimp only[wO] at *;obtain ⟨cw,hq,aU⟩:=ae;unfold ie at hq;by_cases au:k<l.length
  ·have ar:=hw _ (cc au);rw[drop_cons au] at hm aU;unfold eL at aU;have hm:hJ (j2 (some (L,q)) (l.getD k default)) (l.drop (k+1))=hJ none l:=hm;unfold ie at ar;by_cases ht:q.aP+q.Data.length=(l.getD k default).aP
   ·rw[FC ht] at hm;(repeat' first|refine da (hq:=fun N=>Gu (n:=q.Data.length) rfl rfl rfl rfl (bY _)) (h:=?_)|refine cb (hq:=te (n:=L.length+1) rfl rfl rfl rfl (by simp)) (h:=?_)|refine da (hq:=fun N=>wQ (n:=L.length) rfl rfl rfl rfl (by omega) (by simp) rfl rfl) (h:=?_)|refine da (hq:=fun N=>ei rfl rfl rfl (cr rfl (by simp) rfl td) rfl) (h:=?_)|refine eP ((q.Data++(l.getD k default).Data).map bm) ?_|refine yE (l:=L.map b5++[[I q.aP,.own 1]]) (i:=L.length) (j:=1) (vs:=[.own 35]) (r:=L.map b5++[[I q.aP,.own 35]]) (by simp) (by rw[td,Gt];rfl) (h:=?_)|(refine fI 7 ?_;(and_intros <;> intros))|fail)
    all_goals try (exfalso;omega)
    refine gW ?_;refine gU [(11,1),(14,0)] (h:=?_);(repeat' first|refine da (hq:=fun N=>Gu (n:=q.Data.length) rfl rfl rfl rfl (bY _)) (h:=?_)|refine cb (hq:=te (n:=L.length+1) rfl rfl rfl rfl (by simp)) (h:=?_)|refine da (hq:=fun N=>wQ (n:=L.length) rfl rfl rfl rfl (by omega) (by simp) rfl rfl) (h:=?_)|refine da (hq:=fun N=>ei rfl rfl rfl (cr rfl (by simp) rfl td) rfl) (h:=?_)|refine eP ((q.Data++(l.getD k default).Data).map bm) ?_|refine yE (l:=L.map b5++[[I q.aP,.own 1]]) (i:=L.length) (j:=1) (vs:=[.own 35]) (r:=L.map b5++[[I q.aP,.own 35]]) (by simp) (by rw[td,Gt];rfl) (h:=?_)|(refine eF ?_;(and_intros <;> intros))|refine dS ?_|fail)
    all_goals first
     | (exfalso;simp only[bY] at *;omega)
     | skip
    all_goals (refine ⟨(k+1,some (L,⟨q.aP,q.Data++(l.getD k default).Data⟩)),b4,⟨au,hm,(by unfold wP ie;dsimp only;rw[eE];refine ⟨by omega,⟨by omega,by omega⟩,by omega⟩)⟩,?_⟩)
    dsimp only[wO];exact jG [(0,0),(35,1)] rfl jH (And.intro ⟨rfl,_,rfl,p3 (l:=L.map b5) (map_pure L) rfl⟩ (And.intro ⟨rfl,_,rfl,.inl rfl⟩ True.intro)) rfl
   ·rw[FD ht] at hm;(repeat' first|refine da (hq:=fun N=>Gu (n:=q.Data.length) rfl rfl rfl rfl (bY _)) (h:=?_)|refine cb (hq:=te (n:=L.length+1) rfl rfl rfl rfl (by simp)) (h:=?_)|refine da (hq:=fun N=>wQ (n:=L.length) rfl rfl rfl rfl (by omega) (by simp) rfl rfl) (h:=?_)|refine da (hq:=fun N=>ei rfl rfl rfl (cr rfl (by simp) rfl td) rfl) (h:=?_)|refine eP ((l.getD k default).Data.map bm) ?_|refine Ml (h:=?_)|(refine Mm rfl ?_ ?_ (h:=?_);(exact Gv);(exact Gw))|(refine eF ?_;(and_intros <;> intros))|refine dS ?_|fail)
    all_goals first
     | (exfalso;simp only[bY] at *;omega)
     | skip
    all_goals (refine ⟨(k+1,some (L++[q],l.getD k default)),b4,⟨au,hm,(by unfold wP ie;dsimp only;rw[eE];refine ⟨by simp;omega,ar,by omega⟩)⟩,?_⟩)
    dsimp only[wO];refine (oB (id:=1) rfl).trans ((yi (id:=33) (m:=1) (A:=L.map b5) (a:=I q.aP) (B:=[[I (l.getD k default).aP,.own 30]]) (dW:=(L++[q]).map b5++[[I (l.getD k default).aP,.own 30]]) rfl rfl (by rw[lS];rfl) (by rw[ix,lS];rfl)).trans ?_);exact jG [(33,0),(30,1)] rfl jH (And.intro ⟨rfl,_,rfl,p3 (l:=(L++[q]).map b5) (map_pure _) rfl⟩ (And.intro ⟨rfl,_,rfl,.inl rfl⟩ True.intro)) rfl
  ·have ca:k=l.length:=by omega
   subst ca;rw[iJ] at hm;have hr:h6 l=L++[q]:=by unfold h6;rw[<- hm];rfl
   rw[hr];refine gH ((oB (id:=1) rfl).trans ((yi (id:=0) (m:=1) (A:=L.map b5) (a:=I q.aP) (B:=[]) (dW:=(L++[q]).map b5) rfl rfl rfl (by rw[ix];rfl)).trans (Mn (id:=0) rfl Mi))) ?_;(try refine ay ?_;and_intros <;> intros)
   all_goals (refine bX (hr:=?_);rfl)
end
section
set_option maxRecDepth 100000
attribute [local irreducible] cE a6 bu GStep Fn cg bf cA
def qm (a off:Int) (data:List UInt8) (to:Int):bA:=⟨a,(data.take (to - off).toNat).drop (a - off).toNat⟩
def jR (a off:Int) (data:List UInt8) (to:Int) (l:List bA):List bA:=if a<to then l++[qm a off data to] else l
theorem Ct (a off to:Int) (data:List UInt8) (l:List bA) (ai:0<=off) (br:off<=a) (abE:a<=4611686018427387903) (ht:to<=off+data.length) (hm:off+data.length<=4611686018427387903) (ao:l.length<=1000000) :
  cA Tryz.prog 294 [I to,.ptr 0 0 0 0,.ptr 1 0 0 0,.ptr 2 0 0 0,.ptr 3 0 0 0] [(0,some (.box 3 [I a])),(1,some (.box 128 [.own 4])),(2,some (.box 29 [.ro (data.map bm)])),(3,some (.box 3 [I off])),(4,some (.row 235 2 (l.map b5)))] 5
   (.bN []) [(0,some (.box 3 [I a])),(1,some (.box 128 [.own 5])),(2,some (.box 29 [.ro (data.map bm)])),(3,some (.box 3 [I off])),(5,some (.row 235 2 ((jR a off data to l).map b5)))] 6:=by
 unfold jR;by_cases bW:a<to
 ·rw[al bW];refine aH Tryz.func294 ?_;(repeat' first|(refine yF (l:=data) (f:=bm) (a - off).toNat (to - off).toNat ?_ ?_ ?_ ?_ rfl (h:=?_);(focus (show(a - off:Int)=_;omega));(focus (show(to - off:Int)=_;omega));(focus omega);(focus omega))|refine eP ((l++[qm a off data to]).map b5) ?_|(refine ay ?_;(and_intros <;> intros))|fail)
  all_goals first|exact nY|skip
 ·rw[ah bW];refine aH Tryz.func294 ?_;refine gH (bq:=⟨[(0,I to),(1,.ptr 0 0 0 0),(2,.ptr 1 0 0 0),(3,.ptr 2 0 0 0),(4,.ptr 3 0 0 0)],[(0,some (.box 3 [I a])),(1,some (.box 128 [.own 5])),(2,some (.box 29 [.ro (data.map bm)])),(3,some (.box 3 [I off])),(5,some (.row 235 2 (l.map b5)))],6,Tryz.f294.ntmps⟩) (jg 4) ?_;(try refine ay ?_;and_intros <;> intros)
  all_goals first|exact nY|skip
end
section
set_option maxRecDepth 100000
attribute [local irreducible] cE a6 bu GStep Fn cg bf
def eO (g:dQ):Int:=if 0<g.aD.length then(g.aD.getD (g.aD.length - 1) default).aP+(g.aD.getD (g.aD.length - 1) default).Data.length else g.bQ
theorem Mo:∀ (l:List bA) (f:Bool) (a b:Int),0<=a->fe f a l=some b -> ∀ p ∈ l,a<=p.aP/\p.aP+p.Data.length<=4611686018427387903
 | [],_,_,_,_,_,p,ar=>by cases ar
 | q :: l,f,a,b,br,h,p,ar=>by
  unfold fe at h;split at h
  ·rename_i hc;rcases hX.1 ar with rfl|ar
   ·exact⟨hc.2.1,hc.2.2.1⟩
   ·have:=Mo l false _ b (by omega) h p ar;exact⟨by omega,this.2⟩
  ·cases h
theorem wk (h:ev g=0):gj g /\ ∀ p ∈ g.aD,g.bQ<=p.aP/\p.aP+p.Data.length<=4611686018427387903:=by
 unfold ev at h;split at h
 ·rename_i hc;refine ⟨hc.1,?_⟩
  cases he:fe true g.bQ g.aD with
  | none=>rw[he] at hc;exact absurd hc.2 (by simp[lZ])
  | some b=>exact Mo _ _ _ _ (by have:=hc.1;unfold gj at this;omega) he
 ·cases h
theorem Tw (g:dQ) (h:ev g=0):Fn Tryz.prog 293 [.agg (e5 g)] (I (eO g)):=by
 obtain ⟨hh,hm⟩:=wk h;unfold gj at hh;unfold eO;by_cases hn:0<g.aD.length
 ·rw[al hn];have ar:=hm _ (cc (k:=g.aD.length - 1) (by omega));clear hm h;refine aH Tryz.func293 ?_;(try refine ay ?_;and_intros <;> intros)
  all_goals first
   | exact bX (hr:=rfl)
   | (exfalso;omega)
   | skip
 ·rw[ah hn];clear hm h;refine aH Tryz.func293 ?_;(try refine ay ?_;and_intros <;> intros)
  all_goals first
   | exact bX (hr:=rfl)
   | (exfalso;omega)
   | skip
end
section
set_option maxRecDepth 100000
def r4 (off last:Int) (data:List UInt8) (x:Int×Bool×List bA) (p:bA):Int×Bool×List bA:=
 (max x.1 (p.aP+p.Data.length),x.2.1 || decide (last<=max x.1 (p.aP+p.Data.length)),(if x.2.1=false/\x.1<=p.aP then jR x.1 off data (min p.aP last) x.2.2 else x.2.2)++[p])
def pB (off last:Int) (data:List UInt8):Int×Bool×List bA->List bA->Int×Bool×List bA
 | x,[]=>x
 | x,p :: l=>pB off last data (r4 off last data x p) l
def uX (off last:Int) (data:List UInt8) (x:Int×Bool×List bA):List bA:=jR x.1 off data last x.2.2
def iw (g:dQ) (off:Int) (data:List UInt8):List bA:=uX off (off+data.length) data (pB off (off+data.length) data (max off g.bQ,false,[]) g.aD)
def iv (g:dQ) (off:Int) (data:List UInt8) (fin:Bool):dQ×Int:=
 if ev g≠0 then(⟨0,[],0,0⟩,ev g)
 else if off<0\/4611686018427387903 - data.length<off then(⟨0,[],0,0⟩,6)
 else if (0<=g.c8/\(g.c8<off+data.length\/(fin=true/\off+data.length≠g.c8)))\/(fin=true/\off+data.length<eO g) then(⟨0,[],0,0⟩,12)
 else if g.bj<off+data.length then(⟨0,[],0,0⟩,11)
 else if 4<(h6 (iw g off data)).length then(⟨0,[],0,0⟩,8)
 else(⟨g.bQ,h6 (iw g off data),if fin=true then off+data.length else g.c8,g.bj⟩,0)
def uY (off:Int) (n:Nat) (x:Int×Bool×List bA):Prop:=
 off<=x.1/\x.1<=4611686018427387903/\x.2.2.length<=2 * n/\eL x.2.2<=33554432 * n /\ ∀ p ∈ x.2.2,ie p
theorem yG:∀ (l m:List bA),eL (l++m)=eL l+eL m
 | [],m=>by simp[eL]
 | p :: l,m=>by simp only[jv,eL,yG l m];omega
theorem Tx (ai:off<=a) (J:a<=to) (aa:to<=off+data.length):((qm a off data to).Data.length:Int)=to - a:=by
 unfold qm;simp only[mJ,kO];omega
theorem wR {l:List bA} (tf:0<=off) (ai:off<=a) (aa:to<=off+data.length) (hd:data.length<=1048576) (hm:off+data.length<=4611686018427387903) (ao:∀ p ∈ l,ie p) :
  (jR a off data to l).length<=l.length+1/\eL (jR a off data to l)<=eL l+1048576 /\ ∀ p ∈ jR a off data to l,ie p:=by
 unfold jR;split
 ·rename_i h;have hlen:=Tx ai (by omega) aa;refine ⟨by simp,?_,fun p ar=>?_⟩
  ·rw[yG];have:eL [qm a off data to]=(qm a off data to).Data.length:=by simp[eL]
   omega
  ·rcases gr.1 ar with ar|ar
   ·exact ao p ar
   ·rw[iX] at ar;subst ar;have e:(qm a off data to).aP=a:=rfl;unfold ie;omega
 ·exact⟨by omega,by omega,ao⟩
theorem Gx {x:Int×Bool×List bA} (tf:0<=off) (hd:data.length<=1048576) (hm:off+data.length<=4611686018427387903) (U:uY off n x) (ar:ie p) (hI:p.Data.length<=16777216):uY off (n+1) (r4 off (off+data.length) data x p):=by
 obtain ⟨J,aa,az,bk,dG⟩:=U;have Cu:=ar;unfold ie at Cu;have hc:=wR (to:=min p.aP (off+data.length)) tf J (by omega) hd hm dG;have gv:eL [p]=p.Data.length:=by simp[eL]
 have key:∀ q:List bA,q.length<=x.2.2.length+1/\eL q<=eL x.2.2+1048576/\(∀ p ∈ q,ie p)->uY off (n+1) (max x.1 (p.aP+p.Data.length),x.2.1 || decide (off+data.length<=max x.1 (p.aP+p.Data.length)),q++[p]):=by
  intro q hq;refine ⟨by dsimp only;omega,by dsimp only;omega,by simp;omega,by dsimp only;rw[yG];omega,fun y aj=>?_⟩;rcases gr.1 aj with aj|aj
  ·exact hq.2.2 y aj
  ·rw[iX] at aj;subst aj;exact ar
 unfold r4;split
 ·exact key _ hc
 ·exact key _ ⟨by omega,by omega,dG⟩
def dv:Int->List UInt8->List (Int×UInt8)
 | _,[]=>[]
 | o,c :: d=>(o,c) :: dv (o+1) d
def dd (l:List bA):List (Int×UInt8):=l.flatMap (fun p=>dv p.aP p.Data)
def one (y:Int×UInt8):bA:=⟨y.1,[y.2]⟩
theorem Mp:∀ (l m:List bA) (x:Option (List bA×bA)),hJ x (l++m)=hJ (hJ x l) m
 | [],_,_=>rfl
 | p :: l,m,x=>Mp l m (j2 x p)
theorem Cv:∀ (d:List UInt8) (L:List bA) (o:Int) (D:List UInt8),hJ (some (L,⟨o,D⟩)) ((dv (o+D.length) d).map one)=some (L,⟨o,D++d⟩)
 | [],L,o,D=>by simp[dv,hJ]
 | c :: d,L,o,D=>by
  have h:=Cv d L o (D++[c]);simp only[dv,iM,hJ,one];unfold j2;dsimp only;rw[al rfl];rw[eE] at h;rw[show o+(D.length:Int)+1=o+((D.length+[c].length:Nat):Int) by simp;omega,h];simp
theorem Ty (x:Option (List bA×bA)) (p:bA) (ar:p.Data≠[]):hJ x ((dv p.aP p.Data).map one)=j2 x p:=by
 obtain ⟨o,D⟩:=p
 cases D with
 | nil=>exact absurd rfl ar
 | cons c d=>
  simp only[dv,iM,hJ,one]
  cases x with
  | none=>
   have:=Cv d [] o [c];simpa[j2] using this
  | some y=>
   obtain ⟨L,q⟩:=y;unfold j2;dsimp only;split
   ·rename_i h;have:=Cv d L q.aP (q.Data++[c]);rw[show o+1=q.aP+((q.Data++[c]).length:Int) by simp;omega,this];simp
   ·have:=Cv d (L++[q]) o [c];simpa using this
theorem Mq:∀ (l:List bA) (x:Option (List bA×bA)),(∀ p ∈ l,p.Data≠[])->hJ x ((dd l).map one)=hJ x l
 | [],_,_=>rfl
 | p :: l,x,h=>by
  unfold dd;rw[List.flatMap_cons,ix,Mp,Ty x p (h p fV)];exact Mq l _ (fun q hq=>h q (ha _ hq))
theorem wS:∀ (d:List UInt8) (o x:Int) (c:UInt8),(x,c) ∈ dv o d ↔ o<=x/\d[(x - o).toNat]? = some c
 | [],o,x,c=>by simp[dv]
 | b :: d,o,x,c=>by
  have bU:=wS d (o+1) x c;simp only[dv,hX,Prod.mk.injEq,bU];by_cases h:x=o
  ·subst h;simp;constructor
   ·rintro (h|h)
    ·exact h.symm
    ·omega
   ·intro h;exact .inl h.symm
  ·constructor
   ·rintro (⟨J,_⟩ | ⟨J,aa⟩)
    ·exact absurd J h
    ·refine ⟨by omega,?_⟩;rw[show(x - o).toNat=(x - (o+1)).toNat+1 by omega];simpa using aa
   ·rintro ⟨J,aa⟩;refine .inr ⟨by omega,?_⟩;rw[show(x - o).toNat=(x - (o+1)).toNat+1 by omega] at aa;simpa using aa
theorem mA {d:List UInt8} {o x:Int} {c:UInt8} (h:(x,c) ∈ dv o d):o<=x/\x<o+d.length:=by
 obtain ⟨J,aa⟩:=(wS d o x c).1 h;have:=(ko.1 aa).1;omega
theorem yH:∀ (d:List UInt8) (o:Int),(dv o d).Pairwise (fun a b=>a.1<b.1)
 | [],_=>List.Pairwise.nil
 | c :: d,o=>by
  refine List.Pairwise.cons (fun y aj=>?_) (yH d (o+1));have:=mA (x:=y.1) (c:=y.2) aj;show o<y.1;omega
def nr (l:List (Int×UInt8)):Prop:=l.Pairwise (fun a b=>a.1<b.1)
def nt:Int->List bA->Prop
 | _,[]=>True
 | e,p :: l=>p.Data≠[]/\e<=p.aP/\nt (p.aP+p.Data.length) l
theorem yI:∀ {l:List bA} {e:Int},nt e l -> ∀ y ∈ dd l,e<=y.1
 | [],_,_,y,aj=>by simp[dd] at aj
 | p :: l,e,h,y,aj=>by
  obtain ⟨_,aa,az⟩:=h;unfold dd at aj;rw[List.flatMap_cons,gr] at aj;rcases aj with aj|aj
  ·have:=mA (x:=y.1) (c:=y.2) aj;omega
  ·have:=yI az y aj;omega
theorem Tz (ai:off<=a) (x:Int) (c:UInt8):(x,c) ∈ dv a (qm a off data to).Data ↔ a<=x/\x<to/\(x,c) ∈ dv off data:=by
 rw[wS,wS];unfold qm;dsimp only;rw[List.getElem?_drop,n7];constructor
 ·rintro ⟨J,aa⟩;split at aa
  ·rename_i az;refine ⟨J,by omega,by omega,?_⟩;rw[show(x - off).toNat=(a - off).toNat+(x - a).toNat by omega];exact aa
  ·cases aa
 ·rintro ⟨J,aa,az,bk⟩;refine ⟨J,?_⟩;rw[al (by omega),show(a - off).toNat+(x - a).toNat=(x - off).toNat by omega];exact bk
theorem r5 (l m:List bA):dd (l++m)=dd l++dd m:=by simp[dd]
theorem rb (p:bA):dd [p]=dv p.aP p.Data:=by simp[dd]
theorem Gy (l:List bA) (ai:off<=a) (x:Int) (c:UInt8):(x,c) ∈ dd (jR a off data to l) ↔ (x,c) ∈ dd l\/(a<=x/\x<to/\(x,c) ∈ dv off data):=by
 unfold jR;split
 ·rw[r5,gr,rb];exact or_congr Iff.rfl (Tz ai x c)
 ·constructor
  ·exact .inl
  ·rintro (h|h)
   ·exact h
   ·omega
theorem Mr {l:List bA} (h:nr (dd l)) (ao:∀ y ∈ dd l,y.1<a):nr (dd (jR a off data to l)):=by
 unfold jR;split
 ·unfold nr at *;rw[r5,List.pairwise_append];refine ⟨h,by rw[rb];exact yH _ _,fun y aj z aU=>?_⟩;rw[rb] at aU;have:=mA (x:=z.1) (c:=z.2) aU;have:=ao y aj;have e:(qm a off data to).aP=a:=rfl;omega
 ·exact h
theorem Ms {l:List bA} (ai:off<=a) (ht:to<=off+data.length) (ao:∀ p ∈ l,p.Data≠[]):∀ p ∈ jR a off data to l,p.Data≠[]:=by
 unfold jR;split
 ·intro p ar;rcases gr.1 ar with ar|ar
  ·exact ao p ar
  ·rw[iX] at ar;subst ar;intro e;have:=congrArg List.length e;unfold qm at this;simp only[mJ,kO,fg] at this;omega
 ·exact ao
def wT (h:List bA) (off dn:Int) (data:List UInt8) (y:Int×UInt8):Prop:=y ∈ dd h\/(y ∈ dv off data/\dn<=y.1 /\ ∀ z ∈ dd h,z.1≠y.1)
structure Cw (h:List bA) (off dn:Int) (data:List UInt8) (e:Int) (x:Int×Bool×List bA):Prop where
 lD:nr (dd x.2.2)
 lt:∀ y ∈ dd x.2.2,y.1<e
 at_:x.1=max (max off dn) e
 put:x.2.1=true->off+data.length<=x.1
 ne:∀ p ∈ x.2.2,p.Data≠[]
 mem:∀ y:Int×UInt8,y ∈ dd x.2.2 ↔ y.1<e/\wT h off dn data y
theorem Mt:∀ {J:List bA} {e:Int} {p:bA} {aa:List bA},nt e (J++p :: aa)->nt e J/\nt p.aP (p :: aa)/\(∀ y ∈ dd J,y.1<p.aP)/\e<=p.aP
 | [],e,p,aa,h=>⟨trivial,⟨h.1,Int.le_refl _,h.2.2⟩,(by simp[dd]),h.2.1⟩
 | q :: J,e,p,aa,h=>by
  obtain ⟨fF,a2,a3⟩:=h;obtain ⟨bF,bS,Cx,abF⟩:=Mt a3;refine ⟨⟨fF,a2,bF⟩,bS,fun y aj=>?_,by omega⟩;unfold dd at aj;rw[List.flatMap_cons,gr] at aj;rcases aj with aj|aj
  ·have:=mA (x:=y.1) (c:=y.2) aj;omega
  ·exact Cx y aj
theorem TA {J aa:List bA} {dn e:Int} {x:Int×Bool×List bA} (ag:nt dn (J++p :: aa)) (he:e<=p.aP) (q2:∀ y ∈ dd J,y.1<e) (Cy:dn<=e) (U:Cw (J++p :: aa) off dn data e x):Cw (J++p :: aa) off dn data (p.aP+p.Data.length) (r4 off (off+data.length) data x p):=by
 obtain ⟨a,put,l⟩:=x;obtain ⟨ew,er,eK,jS,kP,nu⟩:=U;dsimp only at *;obtain ⟨bB,de,fJ,jI⟩:=Mt ag;have ao:(if put=false/\a<=p.aP then jR a off data (min p.aP (off+data.length)) l else l)=jR a off data (min p.aP (off+data.length)) l:=by
  split
  ·rfl
  ·rename_i hn;unfold jR;rw[ah];intro bW
   cases put
   ·exact hn ⟨rfl,by omega⟩
   ·have:=jS rfl;omega
 have ct:=de.1;have fz:0<p.Data.length:=List.length_pos_iff.2 ct;have Cz:∀ y,y ∈ dd (J++p :: aa) ↔ y ∈ dd J\/y ∈ dv p.aP p.Data\/y ∈ dd aa:=fun y=>by
  rw[r5,gr];unfold dd;rw[List.flatMap_cons,gr]
 have Mu:=yI de.2.2;have wU:off<=a:=by omega
 unfold r4;dsimp only;rw[ao];have bW:∀ y ∈ dd (jR a off data (min p.aP (off+data.length)) l),y.1<p.aP:=fun y aj=>by
  rcases (Gy l wU y.1 y.2).1 aj with h|h
  ·have:=er y h;omega
  ·omega
 refine ⟨?_,?_,by dsimp only;omega,?_,?_,?_⟩
 ·dsimp only;have h:=Mr (to:=min p.aP (off+data.length)) (data:=data) (off:=off) ew (a:=a) (fun y aj=>by have:=er y aj;omega);unfold nr at *;rw[r5,List.pairwise_append];refine ⟨h,by rw[rb];exact yH _ _,fun y aj z aU=>?_⟩;rw[rb] at aU;have:=mA (x:=z.1) (c:=z.2) aU;have:=bW y aj;omega
 ·intro y aj;dsimp only at aj;rw[r5,gr,rb] at aj;rcases aj with aj|aj
  ·have:=bW y aj;omega
  ·have:=mA (x:=y.1) (c:=y.2) aj;omega
 ·dsimp only;intro h;rw[Bool.or_eq_true,decide_eq_true_eq] at h;rcases h with h|h
  ·have:=jS h;omega
  ·exact h
 ·dsimp only;intro q hq;rcases gr.1 hq with hq|hq
  ·exact Ms wU (by omega) kP q hq
  ·rw[iX] at hq;subst hq;exact ct
 ·dsimp only;rintro ⟨z,c⟩;rw[r5,gr,rb,Gy l wU,nu];dsimp only;unfold wT;constructor
  ·rintro ((⟨h,c6⟩|h)|h)
   ·exact⟨by omega,c6⟩
   ·refine ⟨by omega,.inr ⟨h.2.2,by dsimp only;omega,fun w hw=>?_⟩⟩;dsimp only;rcases (Cz w).1 hw with hw|hw|hw
    ·have:=q2 w hw;omega
    ·have:=mA (x:=w.1) (c:=w.2) hw;omega
    ·have:=Mu w hw;omega
   ·have:=mA h;exact⟨by omega,.inl ((Cz _).2 (.inr (.inl h)))⟩
  ·rintro ⟨aU,h⟩;by_cases Gz:z<e
   ·exact .inl (.inl ⟨Gz,h⟩)
   ·rcases h with h | ⟨h,hd,ia⟩
    ·rcases (Cz _).1 h with h|h|h
     ·have:=q2 _ h;dsimp only at this;omega
     ·exact .inr h
     ·have:=Mu _ h;dsimp only at this;omega
    ·by_cases abG:z<p.aP
     ·have:=mA h;dsimp only at hd;refine .inl (.inr ⟨by omega,by omega,h⟩)
     ·exfalso;have cf:(z - p.aP).toNat<p.Data.length:=by omega
      have hm:(z,p.Data[(z - p.aP).toNat]) ∈ dv p.aP p.Data:=(wS _ _ _ _).2 ⟨by omega,eB cf⟩;exact ia _ ((Cz _).2 (.inr (.inl hm))) rfl
theorem Mv {off dn:Int} {data:List UInt8}:∀ (aa J:List bA) (e:Int) (x:Int×Bool×List bA),nt dn (J++aa)->nt e aa->(∀ y ∈ dd J,y.1<e)->dn<=e->Cw (J++aa) off dn data e x ->
  ∃ kp,(∀ y ∈ dd (J++aa),y.1<kp)/\dn<=kp /\ Cw (J++aa) off dn data kp (pB off (off+data.length) data x aa)
 | [],J,e,x,ag,uZ,he,Cy,U=>⟨e,by rw[lV];exact he,Cy,U⟩
 | p :: aa,J,e,x,ag,uZ,he,Cy,U=>by
  have h:=TA ag uZ.2.1 he Cy U;have hh:J++p :: aa=(J++[p])++aa:=by simp
  unfold pB;rw[hh] at h ag ⊢;refine Mv aa (J++[p]) _ _ ag uZ.2.2 (fun y aj=>?_) (by have:=uZ.2.1;omega) h;rw[r5,gr,rb] at aj;rcases aj with aj|aj
  ·have:=he y aj;have:=uZ.2.1;omega
  ·have:=mA (x:=y.1) (c:=y.2) aj;omega
theorem GA (g:dQ) (off:Int) (data:List UInt8) (ag:nt g.bQ g.aD):nr (dd (iw g off data))/\(∀ p ∈ iw g off data,p.Data≠[]) /\ ∀ y:Int×UInt8,y ∈ dd (iw g off data) ↔ wT g.aD off g.bQ data y:=by
 obtain ⟨e,J,aa,az⟩:=Mv (off:=off) (dn:=g.bQ) (data:=data) g.aD [] g.bQ (max off g.bQ,false,[]) ag ag (by simp[dd]) (Int.le_refl _)
  ⟨by simp[nr,dd],by simp[dd],by dsimp only;omega,by simp,by simp,fun y=>by
   constructor
   ·intro h;simp[dd] at h
   ·rintro ⟨h,c6⟩;unfold wT at c6;rcases c6 with c6|c6
    ·have:=yI ag y c6;omega
    ·omega⟩
 rw[kg] at J az;unfold iw uX;generalize pB off (off+data.length) data (max off g.bQ,false,[]) g.aD=X at *;obtain ⟨a,put,l⟩:=X;obtain ⟨ew,er,eK,jS,kP,nu⟩:=az;dsimp only at *;have wU:off<=a:=by omega
 refine ⟨Mr ew (fun y aj=>by have:=er y aj;omega),Ms wU (Int.le_refl _) kP,?_⟩;rintro ⟨z,c⟩;rw[Gy l wU,nu];dsimp only;unfold wT;constructor
 ·rintro (⟨h,c6⟩|h)
  ·exact c6
  ·exact .inr ⟨h.2.2,by dsimp only;omega,fun w hw=>by have:=J w hw;dsimp only;omega⟩
 ·intro h;by_cases Gz:z<e
  ·exact .inl ⟨Gz,h⟩
  ·rcases h with h | ⟨h,hd,ia⟩
   ·have:=J _ h;dsimp only at this;omega
   ·have:=mA h;dsimp only at hd;exact .inr ⟨by omega,by omega,h⟩
def ik (x:Int) (c:UInt8):List (Int×UInt8)->List (Int×UInt8)
 | []=>[(x,c)]
 | p :: r=>if x=p.1 then(x,c) :: r else p :: ik x c r
def l0 (x:Int):List (Int×UInt8)->Option UInt8
 | []=>none
 | p :: r=>if x=p.1 then some p.2 else l0 x r
def fC:List (Int×UInt8)->List (Int×UInt8)->List (Int×UInt8)
 | M,[]=>M
 | M,y :: l=>fC (ik y.1 y.2 M) l
abbrev eM (l:List (Int×UInt8)):List Int:=l.map (·.1)
theorem Fy:∀ (l m M:List (Int×UInt8)),fC M (l++m)=fC (fC M l) m
 | [],_,_=>rfl
 | y :: l,m,M=>Fy l m _
theorem GB (x y:Int) (c:UInt8):∀ (M:List (Int×UInt8)),l0 x (ik y c M)=if x=y then some c else l0 x M
 | []=>by simp[ik,l0]
 | p :: r=>by
  have bU:=GB x y c r;unfold ik;by_cases h:y=p.1
  ·rw[al h];simp only[l0];by_cases U:x=y
   ·rw[al U,al U]
   ·rw[ah U,ah U,ah (by omega)]
  ·rw[ah h];simp only[l0];by_cases U:x=p.1
   ·rw[al U,ah (by omega),al U]
   ·rw[ah U,bU,ah U]
theorem GC (x y:Int) (c:UInt8):∀ (M:List (Int×UInt8)),x ∈ eM (ik y c M) ↔ x=y\/x ∈ eM M
 | []=>by simp[ik,eM]
 | p :: r=>by
  have bU:=GC x y c r;unfold ik;by_cases h:y=p.1
  ·rw[al h];simp only[eM,iM,hX];constructor
   ·rintro (J|J)
    ·exact .inl J
    ·exact .inr (.inr J)
   ·rintro (J|J|J)
    ·exact .inl J
    ·exact .inl (by omega)
    ·exact .inr J
  ·rw[ah h];simp only[eM,iM,hX] at bU ⊢;rw[bU];constructor
   ·rintro (J|J|J) <;> simp[J]
   ·rintro (J|J|J) <;> simp[J]
theorem Mw (y:Int) (c:UInt8):∀ (M:List (Int×UInt8)),(eM M).Nodup->(eM (ik y c M)).Nodup
 | [],_=>by simp[ik,eM]
 | p :: r,h=>by
  have c6:p.1 ∉ eM r/\(eM r).Nodup:=by simpa[eM] using h
  unfold ik;by_cases aj:y=p.1
  ·rw[al aj];subst aj;exact h
  ·rw[ah aj];have bU:=Mw y c r c6.2;have ag:=GC p.1 y c r;simp only[eM,iM,List.nodup_cons] at bU ag c6 ⊢;refine ⟨fun e=>?_,bU⟩;rcases ag.1 e with e|e
   ·omega
   ·exact c6.1 e
theorem GD (x:Int):∀ (l M:List (Int×UInt8)),x ∈ eM (fC M l) ↔ x ∈ eM M\/x ∈ eM l
 | [],M=>by simp[fC,eM]
 | y :: l,M=>by
  have bU:=GD x l (ik y.1 y.2 M);have ag:=GC x y.1 y.2 M;unfold fC;rw[bU,ag];simp only[eM,iM,hX];constructor
  ·rintro ((h|h)|h)
   ·exact .inr (.inl h)
   ·exact .inl h
   ·exact .inr (.inr h)
  ·rintro (h|h|h)
   ·exact .inl (.inr h)
   ·exact .inl (.inl h)
   ·exact .inr h
theorem Fx:∀ (l M:List (Int×UInt8)),(eM M).Nodup->(eM (fC M l)).Nodup
 | [],_,h=>h
 | y :: l,M,h=>Fx l _ (Mw y.1 y.2 M h)
theorem GF:∀ (l M:List (Int×UInt8)) (x:Int),x ∉ eM l->l0 x (fC M l)=l0 x M
 | [],_,_,_=>rfl
 | y :: l,M,x,h=>by
  simp only[eM,iM,hX,not_or] at h;unfold fC;rw[GF l _ x h.2,GB,ah h.1]
theorem GG:∀ (l M:List (Int×UInt8)) (x:Int) (c:UInt8),nr l->(x,c) ∈ l->l0 x (fC M l)=some c
 | [],_,_,_,_,h=>by cases h
 | y :: l,M,x,c,br,h=>by
  obtain ⟨J,aa⟩:=List.pairwise_cons.1 br;unfold fC;rcases hX.1 h with h|h
  ·subst h
   rw[GF l _ x (fun e=>by
    obtain ⟨z,aU,e⟩:=List.mem_map.1 e;have:=J z aU
    dsimp only at this;omega),GB,al rfl]
  ·exact GG l _ x c aa h
theorem Mx:∀ {l m:List Int},l.Pairwise (· < ·)->m.Pairwise (· < ·)->(∀ x,x ∈ l ↔ x ∈ m)->l=m
 | [],[],_,_,_=>rfl
 | [],y :: m,_,_,h=>by have:=(h y).2 fV;cases this
 | x :: l,[],_,_,h=>by have:=(h x).1 fV;cases this
 | x :: l,y :: m,ao,hm,h=>by
  obtain ⟨fv,gz⟩:=List.pairwise_cons.1 ao;obtain ⟨m1,m2⟩:=List.pairwise_cons.1 hm;have GH:x=y:=by
   rcases hX.1 ((h x).1 fV) with e|e
   ·exact e
   ·rcases hX.1 ((h y).2 fV) with f|f
    ·exact f.symm
    ·have:=m1 x e;have:=fv y f;omega
  subst GH;rw[Mx gz m2 (fun z=>?_)];constructor
  ·intro aU;rcases hX.1 ((h z).1 (ha _ aU)) with e|e
   ·have:=fv z aU;omega
   ·exact e
  ·intro aU;rcases hX.1 ((h z).2 (ha _ aU)) with e|e
   ·have:=m1 z aU;omega
   ·exact e
def jt (g:dQ) (off:Int) (data:List UInt8):List (Int×UInt8):=(dv off data).filter (fun y=>decide (g.bQ<=y.1))++dd g.aD
theorem My:∀ {l:List bA} {e:Int},nt e l->nr (dd l)
 | [],_,_=>by simp[nr,dd]
 | p :: l,e,h=>by
  have bU:=My h.2.2;have av:=yI h.2.2;unfold nr at *;unfold dd at *;rw[List.flatMap_cons,List.pairwise_append];refine ⟨yH _ _,bU,fun y aj z aU=>?_⟩;have:=mA (x:=y.1) (c:=y.2) aj;have:=av z aU;omega
theorem Mz (g:dQ) (off:Int) (data:List UInt8) (ag:nt g.bQ g.aD) (P:List Int) (iN:P.Pairwise (· <= ·)) (ar:P.Perm (eM (fC [] (jt g off data)))) :
  P.map (fun x=>(x,(l0 x (fC [] (jt g off data))).getD 0))=dd (iw g off data):=by
 obtain ⟨J,aa,az⟩:=GA g off data ag;have nQ:P.Nodup:=ar.nodup_iff.2 (Fx _ _ (by simp[eM]));have TC:nr ((dv off data).filter (fun y=>decide (g.bQ<=y.1))):=List.Pairwise.filter _ (yH data off);have yJ:∀ x,x ∈ P ↔ x ∈ eM (dd (iw g off data)):=fun x=>by
  rw[ar.mem_iff,GD];constructor
  ·rintro (h|h)
   ·cases h
   ·by_cases hh:x ∈ eM (dd g.aD)
    ·obtain ⟨z,aU,rfl⟩:=List.mem_map.1 hh;exact List.mem_map.2 ⟨z,(az z).2 (.inl aU),rfl⟩
    ·unfold jt eM at h;rw[ix,gr] at h;rcases h with h|h
     ·obtain ⟨z,aU,rfl⟩:=List.mem_map.1 h;rw[List.mem_filter,decide_eq_true_eq] at aU;exact List.mem_map.2 ⟨z,(az z).2 (.inr ⟨aU.1,aU.2,fun w hw e=>hh (List.mem_map.2 ⟨w,hw,e⟩)⟩),rfl⟩
     ·exact absurd h hh
  ·intro h;refine .inr ?_;obtain ⟨z,aU,rfl⟩:=List.mem_map.1 h;unfold jt eM;rw[ix,gr];rcases (az z).1 aU with h | ⟨br,hb,_⟩
   ·exact .inr (List.mem_map.2 ⟨z,h,rfl⟩)
   ·exact .inl (List.mem_map.2 ⟨z,List.mem_filter.2 ⟨br,decide_eq_true hb⟩,rfl⟩)
 have TD:P=eM (dd (iw g off data)):=by
  refine Mx ?_ ?_ yJ
  ·have:P.Pairwise (fun a b=>a<=b/\a≠b):=by
    rw[List.pairwise_and_iff];exact⟨iN,nQ⟩
   exact this.imp (fun h=>by omega)
  ·unfold eM;rw[List.pairwise_map];exact J
 rw[TD];unfold eM;rw[List.map_map]
 conv=>rhs;rw[<- List.map_id (dd (iw g off data))]
 refine List.map_congr_left (fun y aj=>?_);show(y.1,(l0 y.1 (fC [] (jt g off data))).getD 0)=y;have:l0 y.1 (fC [] (jt g off data))=some y.2:=by
  unfold jt;rw[Fy];rcases (az y).1 aj with h | ⟨br,hb,ia⟩
  ·exact GG _ _ _ _ (My ag) h
  ·rw[GF _ _ _ (fun e=>by
    obtain ⟨z,aU,e⟩:=List.mem_map.1 e
    exact ia z aU e)]
   exact GG _ _ _ _ TC (List.mem_filter.2 ⟨br,decide_eq_true hb⟩)
 rw[this];rfl
theorem Sw (g:dQ) (off:Int) (data:List UInt8) (ag:nt g.bQ g.aD) (P:List Int) (iN:P.Pairwise (· <= ·)) (ar:P.Perm (eM (fC [] (jt g off data)))) :
  h6 (P.map (fun x=>one (x,(l0 x (fC [] (jt g off data))).getD 0)))=h6 (iw g off data):=by
 have h:=Mz g off data ag P iN ar;have:P.map (fun x=>one (x,(l0 x (fC [] (jt g off data))).getD 0))=(dd (iw g off data)).map one:=by
  rw[<- h,List.map_map];rfl
 rw[this];unfold h6;rw[Mq _ _ (GA g off data ag).2.1]
end
section
open Go.Shelf
def TF:Go.Shelf.Ren:=⟨fun|191=>263|189=>298|125=>312|257=>314|128=>324|129=>325|294=>334|295=>335|296=>336|297=>337|298=>338|299=>339|216=>340|300=>341|301=>342|328=>348|329=>349|330=>350|331=>351|332=>352|215=>353|343=>355|n=>n,fun|28=>41|0=>0|3=>3|46=>238|51=>368|53=>22|4=>4|183=>380|182=>379|131=>376|5=>5|9=>9|218=>391|222=>389|228=>397|229=>395|n=>n,fun|n=>n⟩
theorem TG:Go.Proofs.Lays.n191 Tryz.prog TF:={
 mixed:=by kernel_rfl,
 f125:=Tryz.func312.trans (congrArg some bR),
 f128:=Tryz.func324.trans (congrArg some bR),
 f129:=Tryz.func325.trans (congrArg some bR),
 f189:=Tryz.func298.trans (congrArg some bR),
 f191:=Tryz.func263.trans (congrArg some bR),
 f215:=Tryz.func353.trans (congrArg some bR),
 f216:=Tryz.func340.trans (congrArg some bR),
 f257:=Tryz.func314.trans (congrArg some bR),
 f294:=Tryz.func334.trans (congrArg some bR),
 f295:=Tryz.func335.trans (congrArg some bR),
 f296:=Tryz.func336.trans (congrArg some bR),
 f297:=Tryz.func337.trans (congrArg some bR),
 f298:=Tryz.func338.trans (congrArg some bR),
 f299:=Tryz.func339.trans (congrArg some bR),
 f300:=Tryz.func341.trans (congrArg some bR),
 f301:=Tryz.func342.trans (congrArg some bR),
 f328:=Tryz.func348.trans (congrArg some bR),
 f329:=Tryz.func349.trans (congrArg some bR),
 f330:=Tryz.func350.trans (congrArg some bR),
 f331:=Tryz.func351.trans (congrArg some bR),
 f332:=Tryz.func352.trans (congrArg some bR),
 f343:=Tryz.func355.trans (congrArg some bR),
 t0:=Tryz.underlying0,
 a0:=Tryz.isAgg0,
 z0:=Tryz.sizeOf0,
 v0:=Tryz.zeroValue0,
 t3:=Tryz.underlying3,
 a3:=Tryz.isAgg3,
 z3:=Tryz.sizeOf3,
 v3:=Tryz.zeroValue3,
 t4:=Tryz.underlying4,
 a4:=Tryz.isAgg4,
 z4:=Tryz.sizeOf4,
 v4:=Tryz.zeroValue4,
 t5:=Tryz.underlying5,
 a5:=Tryz.isAgg5,
 z5:=Tryz.sizeOf5,
 v5:=Tryz.zeroValue5,
 t9:=Tryz.underlying9,
 a9:=Tryz.isAgg9,
 z9:=Tryz.sizeOf9,
 v9:=Tryz.zeroValue9,
 t28:=Tryz.underlying41,
 a28:=Tryz.isAgg41,
 z28:=Tryz.sizeOf41,
 v28:=Tryz.zeroValue41,
 t46:=Tryz.underlying238,
 a46:=Tryz.isAgg238,
 z46:=Tryz.sizeOf238,
 v46:=Tryz.zeroValue238,
 t51:=Tryz.underlying368,
 a51:=Tryz.isAgg368,
 z51:=Tryz.sizeOf368,
 v51:=Tryz.zeroValue368,
 t53:=Tryz.underlying22,
 a53:=Tryz.isAgg22,
 z53:=Tryz.sizeOf22,
 v53:=Tryz.zeroValue22,
 t131:=Tryz.underlying376,
 a131:=Tryz.isAgg376,
 z131:=Tryz.sizeOf376,
 v131:=Tryz.zeroValue376,
 t182:=Tryz.underlying379,
 a182:=Tryz.isAgg379,
 z182:=Tryz.sizeOf379,
 v182:=Tryz.zeroValue379,
 t183:=Tryz.underlying380,
 a183:=Tryz.isAgg380,
 z183:=Tryz.sizeOf380,
 v183:=Tryz.zeroValue380,
 t218:=Tryz.underlying391,
 a218:=Tryz.isAgg391,
 z218:=Tryz.sizeOf391,
 v218:=Tryz.zeroValue391,
 t222:=Tryz.underlying389,
 a222:=Tryz.isAgg389,
 z222:=Tryz.sizeOf389,
 v222:=Tryz.zeroValue389,
 t228:=Tryz.underlying397,
 a228:=Tryz.isAgg397,
 z228:=Tryz.sizeOf397,
 v228:=Tryz.zeroValue397,
 t229:=Tryz.underlying395,
 a229:=Tryz.isAgg395,
 z229:=Tryz.sizeOf395,
 v229:=Tryz.zeroValue395 }
end
section
open Go.Shelf Go.RowKit Go.Lib Go.Sort
set_option maxRecDepth 100000
attribute [local irreducible] cE a6 bu GStep Fn cg bf cA
theorem TH {P:Program} {o:Oper} {s:ByteArray} {k:IntKind} (ae:o.op = .index T x y) (U:aJ st.env x=some (.lit (.string s))) (aj:aJ st.env y=some (.lit (.int k 0))) (aY:P.underlying T=some .string) (hn:Nat.blt 0 s.size=true) (aw:s.data.toList.getD 0 0=0):bu P G o st (.lit (.int .u8 0)):=by
 have:=CA (P:=P) (G:=G) (n:=0) ae U aj rfl (bM hn) aY;rw[aw] at this;exact this
theorem TI:Fn Tryz.prog 312 [tg 0] (I 0):=by
 have J:Fn Tryz.prog 325 [tg 0] (I 0):=by
  refine aH Tryz.func325 ?_;(repeat' first|refine cb (hq:=TH rfl rfl rfl rfl bR bR) (h:=?_)|(refine eF ?_;(and_intros <;> intros))|refine dS ?_|fail)
  all_goals first|exact fq|skip
 refine aH Tryz.func312 ?_;(refine bH J ?_;and_intros <;> intros)
 all_goals first|exact fq|skip
theorem GI:cA Tryz.prog 334 [.own 0,I 0,I 0] [(0,some (.row 3 1 []))] 1 (.bN []) [(0,some (.row 3 1 []))] 1:=by
 refine aH Tryz.func334 ?_;(try refine ay ?_;and_intros <;> intros);refine cv (fun _:Unit=>⟨[(0,.own 0),(1,I 0),(2,I 0),(6,I 1)],[(0,some (.row 3 1 []))],1,Tryz.f334.ntmps⟩) (fun _=>True) (fun _=>0) () trivial fP ?_;rintro ⟨⟩ -;(try refine ay ?_;and_intros <;> intros)
 all_goals first|exact nY|skip
theorem GJ:cA Tryz.prog 314 [.own 0,I 0,I 0,I 0] [(0,some (.row 3 1 []))] 1 (.bN []) [(0,some (.row 3 1 []))] 1:=by
 refine aH Tryz.func314 ?_;(try refine ay ?_;and_intros <;> intros);refine cv (fun _:Unit=>⟨[(0,.own 0),(1,I 0),(2,I 0),(3,I 0),(8,ab true),(9,ab true)],[(0,some (.row 3 1 []))],1,Tryz.f314.ntmps⟩) (fun _=>True) (fun _=>0) () trivial fP ?_;rintro ⟨⟩ -;(repeat' first|(refine dL [0] (GI) (h:=?_))|(refine fi [0] (GI) (h:=?_))|(refine gd [0] (GI) (h:=?_))|(refine ay ?_;(and_intros <;> intros))|fail)
 all_goals first|exact nY|skip
theorem GK:cA Tryz.prog 298 [.own 0] [(0,some (.row 3 1 []))] 1 (.bN []) [(0,some (.row 3 1 []))] 1:=by
 refine aH Tryz.func298 ?_;(repeat' first|refine bh TI ?_|(refine dL [0] (GJ) (h:=?_))|(refine fi [0] (GJ) (h:=?_))|(refine gd [0] (GJ) (h:=?_))|(refine ay ?_;(and_intros <;> intros))|fail)
 all_goals first|exact nY|skip
theorem TJ:cA Tryz.prog 263 [.own 0] [(0,some (.row 3 1 []))] 1 (.bN []) [(0,some (.row 3 1 []))] 1:=by
 refine aH Tryz.func263 ?_;(repeat' first|(refine dL [0] (GK) (h:=?_))|(refine fi [0] (GK) (h:=?_))|(refine gd [0] (GK) (h:=?_))|(refine ay ?_;(and_intros <;> intros))|fail)
 all_goals first|exact nY|skip
theorem GL (l:List Int) (i:Nat) (hi:i<l.length):bb (l.map encI) i=encI (l.getD i 0):=by
 unfold bb;rw[bZ,bZ,qn,eB hi];rfl
noncomputable def mB (l:List Int):List Int:=l.mergeSort fun x y=>decide (x<=y)
theorem yg (l:List Int):(mB l).length=l.length:=by unfold mB;exact List.length_mergeSort l
theorem Lp (l:List Int) (ao:l.length<4611686018427387904):cA Tryz.prog 263 [.own 0] [(0,some (.row 3 1 (l.map encI)))] 1 (.bN []) [(0,some (.row 3 1 ((mB l).map encI)))] 1:=by
 by_cases ai:l=[]
 ·subst ai;rw[show mB []=[] from by simp[mB]];exact TJ
 have bP:q8 Tryz.prog 263 = true:=by kernel_rfl
 unfold cA;refine ⟨bP,e4 _,fun F base w0 ρ w fQ cZ hH iT=>?_⟩;have ak:=j8 (iT 0 (by simp));obtain ⟨pC,v,xs,aI,⟨a7,qo⟩,cC,eI⟩:=hH.cJ 0 _ rfl;rw[ak] at aI;injection aI with aI;have lR:0<l.length:=List.length_pos_iff.2 ai;rcases a7.2 with⟨_,hn⟩ | ⟨g,cap,cQ,l1,oG,av,nv,qp,hN,pD⟩
 ·rw[bY] at hn;omega
 rw[bY] at l1 nv pD;have TK:xs=l.map (Value.int .i64):=by
  have hlen:xs.length=l.length:=by have:=a7.1;rw[bY] at this;omega
  refine List.ext_getElem? (fun j=>?_);by_cases ad:j<l.length
  ·obtain ⟨u,hu,ar,_⟩:=eI j 0 (by rw[bY];exact ad) (by omega);rw[Nat.mul_one,kq] at hu;rw[GL l j ad] at ar;rw[hu]
   cases ar with
   | lit v h=>simp[bZ,ad]
  ·rw[List.getElem?_eq_none (by omega),List.getElem?_eq_none (by simp;omega)]
 have jx:cQ.toList.take l.length=l.map (Value.int .i64):=by rw[<- TK,<- pD,Nat.mul_one]
 have TM:=holds_of_blockI av jx;have bW:=(gB.1 av).1;have TN:fQ = #[.slice (some ⟨g,0,none⟩) l.length cap]:=by
  refine Array.ext (by simpa using cZ) (fun j J aa=>?_);simp at aa;subst aa;rw[gg,l2 J] at aI;rw[<- l1];exact aI
 rw[TN];refine (Any.sort_Ints TG g 0 cap l w TM bW ao).mono ?_;rintro e aF ⟨rfl,n,os,rfl⟩;have rc:ρ 0=some v:=by rw[ak,aI]
 have kr:=ownsRow_sortedI (n:=n) (os:=os) (ts:=mB l) (yg l) (cm g) av nv qp (by omega);have l3:¬ bs F ρ [(0,some (.row 3 1 (l.map encI)))] g:=fun aw=>aw.2 0 _ _ rfl rfl rc (by rw[l1];rfl)
 obtain ⟨aL,aS,bi⟩:=hH.step (bl:=ρ) (cB:=[(0,some (.row 3 1 ((mB l).map encI)))]) (next':=1) 0 (some g) (grownBy_sortedI (mB l).toArray)
  (fun k ag=>by injection ag with ag;subst ag;exact⟨qo g (by rw[l1];rfl),l3⟩) (fun _ _ h=>h) (fun id u h=>hH.sup id u h)
  (fun i B ct an=>by
   rw[cl,ah (Ne.symm ct)] at an
   simp[aM] at an)
  (fun B u fD an ae hu hb=>by
   rw[rc] at hu;injection hu with hu;subst hu;refine .inr ⟨fun aw=>aw.2 0 _ _ rfl rfl rc hb,fun i bd dD ct b0 dK c2 cG=>?_⟩;rw[cl,ah (Ne.symm ct)] at b0
   simp[aM] at b0)
  (fun B an hS dc=>by
   rw[cl,al rfl] at an;injection an with an;subst an;refine ⟨by omega,v,(mB l).map (Value.int .i64),rc,⟨by rw[bY,l1,yg];exact kr,qo⟩,fun i hi=>?_,fun i j hi ad=>?_⟩
   ·rw[bY] at hi;rw[GL _ i hi];rfl
   ·rw[bY] at hi;obtain rfl:j=0:=by omega
    refine ⟨.int .i64 ((mB l).getD i 0),by rw[Nat.mul_one,kq];simp[bZ,hi],?_,rfl⟩;rw[GL _ i hi]
    exact .lit _ rfl)
 exact⟨.tuple #[],ρ,rfl,aL,.bN rfl (fun j ad=>by simp at ad),fun _ _=>rfl⟩
end
section
set_option maxRecDepth 100000
def gG (y:Int×UInt8):Value×Value:=(.int .i64 y.1,.int .u8 (y.2.toNat:Int))
theorem MA (x y:Int):mK (.int .i64 x) (.int .i64 y)=decide (x=y):=by
 show(x == y)=_;rw[Bool.eq_iff_iff];simp
theorem yd (x:Int) (c:UInt8):∀ (M:List (Int×UInt8)),mL (.int .i64 x) (.int .u8 (c.toNat:Int)) (M.map gG)=(ik x c M).map gG
 | []=>rfl
 | p :: r=>by
  simp only[iM,mL,ik];have h:mK (.int .i64 x) (gG p).1=decide (x=p.1):=MA x p.1;rw[h];by_cases U:x=p.1
  ·rw[al U,decide_eq_true U];rfl
  ·rw[ah U,decide_eq_false U];simp only[cond_false,iM,yd x c r]
theorem MB (x:Int):∀ (M:List (Int×UInt8)),fU (.int .i64 x) (M.map gG)=(l0 x M).map (fun c=>.int .u8 (c.toNat:Int))
 | []=>rfl
 | p :: r=>by
  simp only[iM,fU,l0];have h:mK (.int .i64 x) (gG p).1=decide (x=p.1):=MA x p.1;rw[h];by_cases U:x=p.1
  ·rw[al U,decide_eq_true U];rfl
  ·rw[ah U,decide_eq_false U];simp only[cond_false,MB x r]
def j1 (M:List (Int×UInt8)) (x:Int):UInt8:=(l0 x M).getD 0
theorem BW (x:Int) (M:List (Int×UInt8)):(fU (.int .i64 x) (M.map gG)).getD (.int .u8 0) = .int .u8 ((j1 M x).toNat:Int):=by
 rw[MB];unfold j1
 cases l0 x M <;> rfl
theorem MC (x:Int) (c:UInt8):∀ (M:List (Int×UInt8)),(ik x c M).length<=M.length+1
 | []=>by simp[ik]
 | p :: r=>by
  have:=MC x c r;unfold ik;split <;> simp <;> omega
theorem Fv:∀ (l M:List (Int×UInt8)),(fC M l).length<=M.length+l.length
 | [],M=>by simp[fC]
 | y :: l,M=>by
  have J:=Fv l (ik y.1 y.2 M);have aa:=MC y.1 y.2 M;unfold fC;simp;omega
theorem BQ:∀ (d:List UInt8) (o:Int),(dv o d).length=d.length
 | [],_=>rfl
 | c :: d,o=>by simp[dv,BQ d]
theorem BP:∀ (l:List bA),(dd l).length=eL l
 | []=>rfl
 | p :: l=>by
  have:=BP l;unfold dd at *;rw[List.flatMap_cons,eE,BQ,this];rfl
theorem Sz {gC hi:Int}:∀ {l M:List (Int×UInt8)},(∀ y ∈ l,gC<=y.1/\y.1<hi)->(∀ y ∈ M,gC<=y.1/\y.1<hi) -> ∀ x ∈ eM (fC M l),gC<=x/\x<hi:=by
 intro l M ao hZ x U;rcases (GD x l M).1 U with h|h
 ·obtain ⟨y,aj,rfl⟩:=List.mem_map.1 h;exact hZ y aj
 ·obtain ⟨y,aj,rfl⟩:=List.mem_map.1 h;exact ao y aj
theorem Fz (l:List Int):(mB l).Perm l:=List.mergeSort_perm _ _
theorem FA (l:List Int):(mB l).Pairwise (· <= ·):=by
 have h:=List.pairwise_mergeSort (le:=fun x y:Int=>decide (x<=y)) (fun a b c J aa=>by simp at *;omega) (fun a b=>by simp;omega) l;exact h.imp (fun h=>by simpa using h)
theorem MD:∀ {l:List bA} {f:Bool} {a b:Int},fe f a l=some b->nt a l
 | [],_,_,_,_=>trivial
 | p :: l,f,a,b,h=>by
  unfold fe at h;split at h
  ·rename_i hc;exact⟨fun e=>by rw[e] at hc;simp at hc,hc.2.1,MD h⟩
  ·cases h
theorem Lm (h:ev g=0):nt g.bQ g.aD:=by
 unfold ev at h;split at h
 ·rename_i hc
  cases he:fe true g.bQ g.aD with
  | none=>rw[he] at hc;exact absurd hc.2 (by simp[lZ])
  | some b=>exact MD he
 ·cases h
theorem Fw:∀ {l:List bA} {B:Nat},(∀ p ∈ l,p.Data.length<=B)->eL l<=B * l.length
 | [],_,_=>cm _
 | p :: l,B,h=>by
  have J:=h p fV;have aa:=Fw (fun q hq=>h q (ha _ hq));have:B * (l.length+1)=B * l.length+B:=Nat.mul_succ _ _;unfold eL;rw[eb];omega
theorem BS {k:Nat} (h:k<data.length):dv (off+k) (data.drop k)=(off+k,data.getD k default) :: dv (off+(k+1:Nat)) (data.drop (k+1)):=by
 have e:data.drop k=data.getD k default :: data.drop (k+1):=drop_cons h;rw[e];show(off+k,data.getD k default) :: dv (off+k+1) (data.drop (k+1))=_;rw[show off+(k:Int)+1=off+((k+1:Nat):Int) by omega]
theorem FE:∀ (L:List (Int×UInt8)) (i:Nat) (h:i<L.length),([L[i].1]++eM (L.eraseIdx i)).Perm (eM L)
 | [],i,h=>by simp at h
 | y :: L,0,_=>by simp[eM]
 | y :: L,i+1,h=>by
  have:=FE L i (by simpa using h);simp only[eM,List.getElem_cons_succ,List.eraseIdx_cons_succ,iM,List.singleton_append] at this ⊢;exact(List.Perm.swap _ _ _).trans (List.Perm.cons _ this)
def rL (P:List Int) (k:Nat):Option (List bA×bA)->Prop
 | none=>k=0
 | some (L,q)=>1<=k/\L.length+1<=k/\q.Data.length<=k/\P.getD (k - 1) default=q.aP+q.Data.length - 1/\1<=q.Data.length
theorem wV:∀ {l:List bA} {p:bA},p ∈ l->p.Data.length<=eL l
 | [],p,h=>by cases h
 | q :: l,p,h=>by
  unfold eL;rcases hX.1 h with rfl|h
  ·omega
  ·have:=wV h;omega
theorem TO (x:Option (List bA×bA)) (p:bA):eL (gI (j2 x p))=eL (gI x)+p.Data.length:=by
 cases x with
 | none=>simp[j2,gI,eL]
 | some y=>
  obtain ⟨L,q⟩:=y;unfold j2;dsimp only;split
  ·simp only[gI,yG,eL,eE];omega
  ·simp only[gI,yG,eL];omega
theorem ME:∀ (l:List bA) (x:Option (List bA×bA)),eL (gI (hJ x l))=eL (gI x)+eL l
 | [],x=>by simp[hJ,eL]
 | p :: l,x=>by
  show eL (gI (hJ (j2 x p) l))=eL (gI x)+(p.Data.length+eL l);rw[ME l,TO];omega
theorem MF (l:List bA):eL (h6 l)=eL l:=by
 unfold h6;rw[ME];simp[gI,eL]
theorem TP {x:Option (List bA×bA)} (U:∀ q ∈ gI x,ie q) (ar:ie p):∀ q ∈ gI (j2 x p),ie q:=by
 cases x with
 | none=>intro q hq;simp[j2,gI] at hq;subst hq;exact ar
 | some y=>
  obtain ⟨L,q⟩:=y;have hq:=U q (by simp[gI]);unfold j2;dsimp only;split
  ·rename_i h;intro z aU;simp only[gI,gr,iX] at aU;rcases aU with aU|rfl
   ·exact U z (by simp[gI,aU])
   ·unfold ie at *;dsimp only;rw[eE];omega
  ·intro z aU;simp only[gI,gr,iX] at aU;rcases aU with(aU|rfl)|rfl
   ·exact U z (by simp[gI,aU])
   ·exact hq
   ·exact ar
theorem MG:∀ {l:List bA} {x:Option (List bA×bA)},(∀ q ∈ gI x,ie q)->(∀ p ∈ l,ie p) -> ∀ q ∈ gI (hJ x l),ie q
 | [],_,U,_=>U
 | p :: l,x,U,ao=>MG (l:=l) (TP U (ao p fV)) (fun q hq=>ao q (ha _ hq))
theorem MH {l:List bA} (ao:∀ p ∈ l,ie p):∀ q ∈ h6 l,ie q:=MG (x:=none) (by simp[gI]) ao
theorem MI {off:Int} {data:List UInt8} (tf:0<=off) (hd:data.length<=1048576) (hm:off+data.length<=4611686018427387903):∀ (l:List bA) {n:Nat} {x:Int×Bool×List bA},uY off n x->(∀ p ∈ l,ie p/\p.Data.length<=16777216)->uY off (n+l.length) (pB off (off+data.length) data x l)
 | [],n,x,U,_=>U
 | p :: l,n,x,U,ao=>by
  have J:=ao p fV;have aa:=Gx tf hd hm U J.1 J.2;have az:=MI tf hd hm l aa (fun q hq=>ao q (ha _ hq));unfold pB;rw[eb,show n+(l.length+1)=n+1+l.length by omega];exact az
theorem MJ (g:dQ) (off:Int) (data:List UInt8) (ai:ev g=0) (tf:0<=off) (hd:data.length<=1048576) (hm:off+data.length<=4611686018427387903) (aw:∀ p ∈ g.aD,p.Data.length<=16777216) :
  (iw g off data).length<=9/\eL (iw g off data)<=135266304 /\ ∀ p ∈ iw g off data,ie p:=by
 obtain ⟨hh,pE⟩:=wk ai;unfold gj at hh;have J:=MI tf hd hm g.aD (n:=0) (x:=(max off g.bQ,false,[])) ⟨by dsimp only;omega,by dsimp only;omega,by simp,by simp[eL],fun p ar=>by cases ar⟩ (fun p ar=>⟨by have:=pE p ar;unfold ie;omega,aw p ar⟩);rw[fy] at J;unfold iw uX;generalize pB off (off+data.length) data (max off g.bQ,false,[]) g.aD=X at *;obtain ⟨ew,er,eK,jS,kP⟩:=J;obtain ⟨abH,abI,TR⟩:=wR tf ew (Int.le_refl (off+(data.length:Int))) hd hm kP;exact⟨by omega,by omega,TR⟩
theorem GM (g:dQ) (off:Int) (data:List UInt8) (fin:Bool) (hw:ga g) (ae:aE off) (hd:data.length<=1048576) (aw:∀ p ∈ g.aD,p.Data.length<=16777216):ga (iv g off data fin).1:=by
 have aU:ga ⟨0,[],0,0⟩:=by unfold ga aE;simp
 unfold iv;split
 ·exact aU
 ·rename_i ai;split
  ·exact aU
  ·rename_i J;split
   ·exact aU
   ·split
    ·exact aU
    ·split
     ·exact aU
     ·rename_i bk;obtain ⟨dg,db,gq⟩:=MJ g off data (by omega) (by omega) hd (by omega) aw;have aL:=MH gq;have aS:=MF (iw g off data);generalize h6 (iw g off data)=M at *;refine ⟨hw.1,by dsimp only;omega,fun y aj=>?_,?_,hw.2.2.2.2⟩
      ·have aj:y ∈ M:=aj;have GN:=aL y aj;have z2:=wV aj;unfold ie at GN;unfold iY aE;omega
      ·have:=hw.2.2.2.1;dsimp only;split
       ·unfold aE;omega
       ·exact this
end
section
set_option maxRecDepth 100000
attribute [local irreducible] cE a6 bu GStep Fn cg bf
def GO (l:List bA):Prop:=∀ k,k+1<l.length->(l.getD k default).aP+(l.getD k default).Data.length<(l.getD (k+1) default).aP
theorem TS {l:List bA} {k:Nat} (h:j<k):(l.take k).getD j default=l.getD j default:=by
 rw[bZ,bZ,n7,al h]
theorem MK (l:List bA) (br:GO l) (ao:l.length * 32<=140737488351232) (hw:∀ y,y ∈ l->iY y):Fn Tryz.prog 252 [.ro (l.map b5)] (.ro (l.map b5)):=by
 have hlen:l.length<=4398046510976:=by omega
 refine aH Tryz.func252 ?_;(try refine ay ?_;and_intros <;> intros);refine cv (fun k:Nat=>⟨[(7,.ro (l.map b5)),(8,I l.length),(9,I k),(3,.own 0)],[(0,some (.row 235 2 ((l.take k).map b5)))],1,Tryz.f252.ntmps⟩)
  (fun k=>k<=l.length) (fun k=>l.length - k) 0 (cm _) ((iR (n:=0) (t:=3) 235 2 rfl rfl rfl).trans dV) ?_
 intro k ag;by_cases au:k<l.length
 ·have ar:=hw _ (cc au);unfold iY at ar;have hI:=ar.2;have GP:(l.take k).length=k:=by rw[kO];omega
  by_cases qZ:k=0
  ·(repeat' first|refine eP ((l.take (k+1)).map b5) ?_|refine h0 ((l.getD k default).Data.map bm) ?_|(refine ay ?_;(and_intros <;> intros))|fail)
   all_goals (exact⟨k+1,(by omega),au,ba⟩)
  ·have ML:=br (k - 1) (by omega);rw[Nat.sub_add_cancel (by omega:1<=k)] at ML;have lu:iY (l.getD (k - 1) default):=hw _ (cc (by omega));rw[<- TS (l:=l) (k:=k) (j:=k - 1) (by omega)] at ML lu;unfold iY aE at lu;unfold aE at ar;have abJ:=lu.2;(repeat' first|refine eP ((l.take (k+1)).map b5) ?_|refine h0 ((l.getD k default).Data.map bm) ?_|refine da (hq:=fun N=>Ci (n:=k - 1) rfl rfl rfl rfl (by omega) (by simp only[bY];omega) rfl rfl) (h:=?_)|(refine eF ?_;(and_intros <;> intros))|refine dS ?_|fail)
   all_goals (exact⟨k+1,(by omega),au,ba⟩)
 ·(try refine ay ?_;and_intros <;> intros)
  all_goals (refine bX (hr:=?_);rw[j9 (by omega)])
theorem MM:∀ (l:List bA) (f:Bool) (a b:Int),fe f a l=some b->GO l/\(f=false -> ∀ p r,l=p :: r->a<p.aP)
 | [],f,a,b,h=>⟨fun k ag=>by simp at ag,fun _ p r h=>by cases h⟩
 | p :: l,f,a,b,h=>by
  simp only[fe] at h;split at h
  ·rename_i hc;obtain ⟨J,aa⟩:=MM l _ _ _ h;refine ⟨fun k ag=>?_,fun hf q r he=>?_⟩
   ·rcases k with _|k
    ·match l,ag with
     | q :: r,_=>exact aa rfl q r rfl
    ·exact J k (by simpa using ag)
   ·injection he with he;subst he;rcases hc.2.2.2 with hc|hc
    ·rw[hf] at hc;cases hc
    ·exact hc
  ·cases h
theorem CB (h:ev g=0):gj g/\GO g.aD:=by
 unfold ev at h;split at h
 ·rename_i hc;refine ⟨hc.1,?_⟩
  cases he:fe true g.bQ g.aD with
  | none=>rw[he] at hc;exact absurd hc.2 (by simp[lZ])
  | some b=>exact(MM _ _ _ _ he).1
 ·cases h
def oO (g:dQ) (n:Int):dQ×Int:=if ev g≠0 then(⟨0,[],0,0⟩,ev g) else if 4611686018427387903<n then(⟨0,[],0,0⟩,6) else(⟨g.bQ,g.aD,g.c8,max g.bj n⟩,0)
theorem TT (g:dQ) (n:Int) (hw:ga g):Fn Tryz.prog 135 [.agg (e5 g),I n] (.bN [.agg (e5 (oO g n).1),I (oO g n).2]):=by
 have J:=CC g hw;unfold oO;by_cases ai:ev g=0
 ·rw[ai] at J ⊢;rw[ah (by omega)];have aa:=MK g.aD (CB ai).2 hw.2.1 hw.2.2.1;refine aH Tryz.func135 ?_;(refine jJ J aa ?_;and_intros <;> intros)
  all_goals first
   | (rw[al (by omega)];exact GQ (hr:=.bN (.cons (.agg (.cons (.refl _) (.cons .nil (.cons (.refl _) (.cons (.refl _) .nil))))) (.cons (.refl _) .nil))))
   | (rw[ah (by omega)];exact bX (hr:=rfl))
 ·rw[al ai];generalize ev g=e at *;refine aH Tryz.func135 ?_;(refine bH J ?_;and_intros <;> intros)
  all_goals exact GQ (hr:=.bN (.cons (.agg (.cons (.refl _) (.cons .nil (.cons (.refl _) (.cons (.refl _) .nil))))) (.cons (.refl _) .nil)))
def ld (g:dQ):dQ×List UInt8×Bool×Int:=
 if ev g≠0 then(⟨0,[],0,0⟩,[],false,ev g)
 else if 0<g.aD.length/\(g.aD.getD 0 default).aP=g.bQ then(⟨g.bQ+(g.aD.getD 0 default).Data.length,g.aD.drop 1,g.c8,g.bj⟩,(g.aD.getD 0 default).Data,decide (g.bQ+(g.aD.getD 0 default).Data.length=g.c8),0)
 else(g,[],decide (g.bQ=g.c8),0)
def wW (r:dQ×List UInt8×Bool×Int):V:=.bN [.agg (e5 r.1),.ro (r.2.1.map bm),ab r.2.2.1,I r.2.2.2]
theorem GR (h:ev g=0) (J:0<g.aD.length):(g.aD.getD 0 default).aP+(g.aD.getD 0 default).Data.length<=4611686018427387903:=by
 unfold ev at h;split at h
 ·rename_i hc;have aa:=hc.2
  match ao:g.aD,J with
  | p :: r,_=>
   rw[ao] at aa;simp only[fe] at aa;split at aa
   ·rename_i hh;exact hh.2.2.1
   ·simp[lZ] at aa
 ·cases h
theorem TU (g:dQ) (hw:ga g):Fn Tryz.prog 249 [.agg (e5 g)] (wW (ld g)):=by
 have J:=CC g hw;unfold ld wW;by_cases ai:ev g=0
 ·rw[ai] at J ⊢;rw[ah (by omega)];have aa:=MK g.aD (CB ai).2 hw.2.1 hw.2.2.1;have hh:=(CB ai).1;have hb:=GR ai;unfold gj at hh;have hlen:g.aD.length<=4:=hh.2.2.2.2;by_cases ar:0<g.aD.length
  ·have hb:=hb ar;refine aH Tryz.func249 ?_;(refine MN ?_;and_intros <;> intros)
   all_goals first
    | (rw[al (by omega)];(exact gS))
    | (rw[ah (by omega)];(exact gS))
  ·refine aH Tryz.func249 ?_;(refine MN ?_;and_intros <;> intros)
   all_goals (rw[ah (by omega)];(exact gS))
 ·rw[al ai];generalize ev g=e at *;refine aH Tryz.func249 ?_;(refine bH J ?_;and_intros <;> intros)
  all_goals (exact gS)
theorem TV (g:dQ) (hw:ga g):Fn Tryz.prog 156 [.agg (e5 g)] (wW (ld g)):=by
 have J:=Fu g hw;unfold ld wW;by_cases ai:ev g=0
 ·rw[ai] at J ⊢;rw[ah (by omega)];have hh:=(CB ai).1;have hb:=GR ai;unfold gj at hh;have hlen:g.aD.length<=4:=hh.2.2.2.2;by_cases ar:0<g.aD.length
  ·have hb:=hb ar;refine aH Tryz.func156 ?_;(refine MO ?_;and_intros <;> intros)
   all_goals first
    | (rw[al (by omega)];(exact gS))
    | (rw[ah (by omega)];(exact gS))
  ·refine aH Tryz.func156 ?_;(refine MO ?_;and_intros <;> intros)
   all_goals (rw[ah (by omega)];(exact gS))
 ·rw[al ai];generalize ev g=e at *;refine aH Tryz.func156 ?_;(refine bH J ?_;and_intros <;> intros)
  all_goals (exact gS)
end
section
set_option maxRecDepth 100000
def th:List bA->Prop
 | []=>True
 | [_]=>True
 | p :: q :: r=>p.aP+p.Data.length≠q.aP/\th (q :: r)
theorem MP:∀ (L:List bA) {q p:bA},th (L++[q])->q.aP+q.Data.length≠p.aP->th (L++[q]++[p])
 | [],_,_,_,h=>⟨h,trivial⟩
 | [a],_,_,h,aa=>⟨h.1,aa,trivial⟩
 | a :: b :: L,q,p,h,aa=>⟨h.1,MP (b :: L) h.2 aa⟩
theorem MQ:∀ (L:List bA) {q p:bA},th (L++[q])->p.aP=q.aP->th (L++[p])
 | [],_,_,_,_=>trivial
 | [a],_,_,h,aa=>⟨by rw[aa];exact h.1,trivial⟩
 | a :: b :: L,q,p,h,aa=>⟨h.1,MQ (b :: L) h.2 aa⟩
theorem MR:∀ (d e:List UInt8) (o:Int),dv o (d++e)=dv o d++dv (o+d.length) e
 | [],e,o=>by simp[dv]
 | c :: d,e,o=>by
  simp only[jv,dv,MR d e (o+1),eb];rw[show o+1+(d.length:Int)=o+((d.length+1:Nat):Int) by omega]
def CD (x:Option (List bA×bA)):Prop:=th (gI x) /\ ∀ p ∈ gI x,p.Data≠[]
theorem TW {x:Option (List bA×bA)} (U:CD x) (ar:p.Data≠[]):CD (j2 x p)/\dd (gI (j2 x p))=dd (gI x)++dv p.aP p.Data:=by
 cases x with
 | none=>exact⟨⟨trivial,fun q hq=>by simp[j2,gI] at hq;subst hq;exact ar⟩,by simp[j2,gI,dd]⟩
 | some y=>
  obtain ⟨L,q⟩:=y;obtain ⟨J,aa⟩:=U;unfold j2;dsimp only;split
  ·rename_i h;refine ⟨⟨MQ L J rfl,fun z aU=>?_⟩,?_⟩
   ·simp only[gI,gr,iX] at aU;rcases aU with aU|rfl
    ·exact aa z (by simp[gI,aU])
    ·intro e;exact ar (List.append_eq_nil_iff.1 e).2
   ·simp only[gI,r5,rb];rw[MR,h,lS]
  ·rename_i h;refine ⟨⟨MP L J h,fun z aU=>?_⟩,?_⟩
   ·simp only[gI,gr,iX] at aU;rcases aU with aU|rfl
    ·exact aa z (by simpa[gI] using aU)
    ·exact ar
   ·simp only[gI,r5,rb]
theorem MS:∀ {l:List bA} {x:Option (List bA×bA)},CD x->(∀ p ∈ l,p.Data≠[])->CD (hJ x l)/\dd (gI (hJ x l))=dd (gI x)++dd l
 | [],x,U,_=>⟨U,by simp[hJ,dd]⟩
 | p :: l,x,U,ao=>by
  obtain ⟨J,aa⟩:=TW U (ao p fV);obtain ⟨az,bk⟩:=MS (l:=l) J (fun q hq=>ao q (ha _ hq));refine ⟨az,?_⟩;unfold hJ;rw[bk,aa,lS];rfl
theorem TX {l:List bA} (ao:∀ p ∈ l,p.Data≠[]):th (h6 l)/\(∀ p ∈ h6 l,p.Data≠[])/\dd (h6 l)=dd l:=by
 obtain ⟨J,aa⟩:=MS (x:=none) (l:=l) ⟨trivial,fun p ar=>by cases ar⟩ ao;exact⟨J.1,J.2,aa⟩
theorem TY {o:Int} {d:List UInt8} (h:d≠[]):∃ c,(o,c) ∈ dv o d:=by
 cases d with
 | nil=>exact absurd rfl h
 | cons c d=>exact⟨c,fV⟩
theorem MT {o:Int} {d:List UInt8} (h:d≠[]):∃ c,(o+d.length - 1,c) ∈ dv o d:=by
 have hd:0<d.length:=List.length_pos_iff.2 h;refine ⟨d[d.length - 1],(wS d o _ _).2 ⟨by omega,?_⟩⟩;rw[show(o+d.length - 1 - o).toNat=d.length - 1 by omega];exact eB (by omega)
theorem GS (p:bA) (r:List bA):dd (p :: r)=dv p.aP p.Data++dd r:=by unfold dd;rw[List.flatMap_cons]
theorem MU:∀ (M:List bA) (f:Bool) (a:Int),(∀ p ∈ M,p.Data≠[]/\ie p)->nr (dd M)->th M->(∀ y ∈ dd M,a<=y.1)->(f=true \/ ∀ p r,M=p :: r->a≠p.aP) ->
  ∃ b,fe f a M=some b/\((M=[]/\b=a) \/ ∃ y ∈ dd M,y.1+1=b)
 | [],f,a,_,_,_,_,_=>⟨a,rfl,.inl ⟨rfl,rfl⟩⟩
 | p :: M,f,a,J,aa,az,bk,dG=>by
  obtain ⟨ar,bP⟩:=J p fV;have hI:0<p.Data.length:=List.length_pos_iff.2 ar;unfold ie at bP;rw[GS] at aa bk;obtain ⟨dz,GU⟩:=TY (o:=p.aP) ar;obtain ⟨b6,ta⟩:=MT (o:=p.aP) ar;have br:=bk _ (List.mem_append_left _ GU);dsimp only at br;unfold nr at aa;rw[List.pairwise_append] at aa;have hR:∀ y ∈ dd M,p.aP+p.Data.length<=y.1:=fun y aj=>by
   have:=aa.2.2 _ ta y aj;dsimp only at this;omega
  obtain ⟨b,hb,k3⟩:=MU M false (p.aP+p.Data.length) (fun q hq=>J q (ha _ hq)) aa.2.1 (by cases M with|nil=>trivial|cons q r=>exact az.2) hR (.inr (fun q r e=>by subst e;exact az.1));refine ⟨b,?_,.inr ?_⟩
  ·unfold fe;rw[al ⟨hI,br,by omega,dG.imp id (fun dG=>by have:=dG p M rfl;omega)⟩];exact hb
  ·rw[GS];rcases k3 with⟨_,rfl⟩ | ⟨y,aj,e⟩
   ·exact⟨_,List.mem_append_left _ ta,by dsimp only;omega⟩
   ·exact⟨y,List.mem_append_right _ aj,e⟩
theorem sV:∀ {l:List bA} {f:Bool} {a b:Int},fe f a l=some b->a<=b /\ ∀ y ∈ dd l,y.1<b
 | [],_,a,b,h=>by simp only[fe,ck] at h;subst h;exact⟨Int.le_refl _,by simp[dd]⟩
 | p :: l,f,a,b,h=>by
  unfold fe at h;split at h
  ·rename_i hc;obtain ⟨J,aa⟩:=sV h;refine ⟨by omega,fun y aj=>?_⟩;rw[GS] at aj;rcases gr.1 aj with aj|aj
   ·have:=mA (x:=y.1) (c:=y.2) aj;omega
   ·exact aa y aj
  ·cases h
theorem TZ:∀ {l:List bA} {f:Bool} {a b:Int},fe f a l=some b->fe true a l=some b
 | [],_,_,_,h=>h
 | p :: l,f,a,b,h=>by
  unfold fe at h ⊢;split at h
  ·rename_i hc;rw[al ⟨hc.1,hc.2.1,hc.2.2.1,.inl rfl⟩];exact h
  ·cases h
theorem pr (h:ev g=0):gj g /\ ∃ b,fe true g.bQ g.aD=some b/\b<=g.bj/\(g.c8<0\/b<=g.c8):=by
 unfold ev at h;split at h
 ·rename_i hc;refine ⟨hc.1,?_⟩
  cases he:fe true g.bQ g.aD with
  | none=>rw[he] at hc;exact absurd hc.2 (by simp[lZ])
  | some b=>
   rw[he] at hc;have:=hc.2;unfold lZ at this;simp at this;exact⟨b,rfl,this.1,this.2⟩
 ·cases h
theorem MV (h:gj g) (hb:fe true g.bQ g.aD=some b) (J:b<=g.bj) (aa:g.c8<0\/b<=g.c8):ev g=0:=by
 unfold ev;rw[al ⟨h,by rw[hb];unfold lZ;simp[J,aa]⟩]
theorem wB (h:fe true g.bQ g.aD=some b):b=eO g:=by
 have key:∀ (l:List bA) (f:Bool) (a b:Int),fe f a l=some b->b=if 0<l.length then(l.getD (l.length - 1) default).aP+(l.getD (l.length - 1) default).Data.length else a:=by
  intro l;induction l with
  | nil=>intro f a b h;simp only[fe,ck] at h;simp[h]
  | cons p l bU=>
   intro f a b h;unfold fe at h;split at h
   ·have:=bU _ _ _ h;rw[this]
    cases l with
    | nil=>simp
    | cons q r=>simp
   ·cases h
 exact key _ _ _ _ h
theorem GV (g:dQ) (off:Int) (data:List UInt8) (fin:Bool) (hd:data.length<=1048576) (aw:∀ p ∈ g.aD,p.Data.length<=16777216) (h:(iv g off data fin).2=0) :
  ev (iv g off data fin).1=0/\eL (iv g off data fin).1.aD<=eL g.aD+data.length/\(iv g off data fin).1.aD.length<=4/\(∀ p ∈ (iv g off data fin).1.aD,ie p)/\eO g<=eO (iv g off data fin).1:=by
 unfold iv at h ⊢;split at h
 ·rename_i J;exact absurd h (by simpa using J)
 ·rename_i ai;rw[ah ai];have ai:ev g=0:=by omega
  split at h
  ·simp at h
  ·rename_i J;rw[ah J];split at h
   ·simp at h
   ·rename_i aa;rw[ah aa];split at h
    ·simp at h
    ·rename_i az;rw[ah az];split at h
     ·simp at h
     ·rename_i bk;rw[ah bk];dsimp only;obtain ⟨hh,aA,CE,abK,px⟩:=pr ai;have ag:=Lm ai;have jh:=wB CE;have MW:=sV CE;obtain ⟨dg,db,gq⟩:=MJ g off data ai (by omega) hd (by omega) aw;obtain ⟨i1,i2,i3⟩:=GA g off data ag;have aL:=MH gq;obtain ⟨m1,m2,m3⟩:=TX i2;unfold gj at hh;have ti:nr (dd (h6 (iw g off data))):=by rw[m3];exact i1
      have yJ:∀ y,y ∈ dd (h6 (iw g off data)) ↔ wT g.aD off g.bQ data y:=fun y=>by rw[m3];exact i3 y
      have hR:∀ y ∈ dd (h6 (iw g off data)),g.bQ<=y.1:=fun y aj=>by
       rcases (yJ y).1 aj with h | ⟨_,h,_⟩
       ·exact yI ag y h
       ·exact h
      have cZ:eL (h6 (iw g off data))<=eL g.aD+data.length:=by
       rw[MF];have ao:=Mz g off data ag (mB (eM (fC [] (jt g off data)))) (FA _) (Fz _);have e:(dd (iw g off data)).length=(mB (eM (fC [] (jt g off data)))).length:=by rw[<- ao,bY]
       rw[BP,yg] at e;have dG:=Fv (jt g off data) [];have h9:(jt g off data).length<=data.length+eL g.aD:=by
        unfold jt;rw[eE,BP];have:=oA (fun y=>decide (g.bQ<=y.1)) (dv off data);rw[BQ] at this;omega
       have oP:(eM (fC [] (jt g off data))).length=(fC [] (jt g off data)).length:=bY _;simp only[fg,fy] at dG;omega
      obtain ⟨b,hb,k3⟩:=MU (h6 (iw g off data)) true g.bQ (fun p ar=>⟨m2 p ar,aL p ar⟩) ti m1 hR (.inl rfl);have yK:=sV hb;have T0:eO g<=b:=by
       rw[<- jh];by_cases hn:g.aD=[]
       ·rw[hn] at CE;simp only[fe,ck] at CE;omega
       ·have ar:0<g.aD.length:=List.length_pos_iff.2 hn;have n8:=jh;unfold eO at n8;rw[al ar] at n8;have pE:=cc (l:=g.aD) (k:=g.aD.length - 1) (by omega);generalize g.aD.getD (g.aD.length - 1) default=yL at *;have T1:yL.Data≠[]:=by
         have:∀ {l:List bA} {e:Int},nt e l -> ∀ p ∈ l,p.Data≠[]:=by
          intro l;induction l with
          | nil=>intro e _ p ar;cases ar
          | cons a l bU=>intro e ae p ar;rcases hX.1 ar with rfl|ar;exact ae.1;exact bU ae.2.2 p ar
         exact this ag _ pE
        obtain ⟨b6,ta⟩:=MT (o:=yL.aP) T1;have cf:(yL.aP+yL.Data.length - 1,b6) ∈ dd g.aD:=List.mem_flatMap.2 ⟨yL,pE,ta⟩;have:=yK.2 _ ((yJ _).2 (.inl cf));dsimp only at this;omega
      have MX:b<=g.bj/\((if fin=true then off+(data.length:Int) else g.c8)<0\/b<=(if fin=true then off+(data.length:Int) else g.c8)):=by
       have h1:b<=aA\/b<=off+data.length:=by
        rcases k3 with⟨_,rfl⟩ | ⟨y,aj,e⟩
        ·exact .inl MW.1
        ·rcases (yJ y).1 aj with h | ⟨h,_,_⟩
         ·have:=MW.2 y h;exact .inl (by omega)
         ·have:=mA (x:=y.1) (c:=y.2) h;exact .inr (by omega)
       refine ⟨by rcases h1 with h|h <;> omega,?_⟩
       cases fin
       ·rw[ah iS];simp only[Bool.false_eq_true,false_and,or_false,not_or,not_and,Int.not_lt] at aa;rcases h1 with h|h
        ·omega
        ·by_cases hf:0<=g.c8
         ·have:=aa hf;omega
         ·omega
       ·rw[al rfl];simp only[true_and,not_or,not_and,Int.not_lt] at aa;rw[jh] at h1;right;rcases h1 with h|h
        ·omega
        ·exact h
      have T2:ev ⟨g.bQ,h6 (iw g off data),if fin=true then off+(data.length:Int) else g.c8,g.bj⟩=0:=MV ⟨hh.1,by dsimp only;split <;> omega,hh.2.2.1,hh.2.2.2.1,by dsimp only;omega⟩ hb MX.1 MX.2;have n8:=wB (g:=⟨g.bQ,h6 (iw g off data),if fin=true then off+(data.length:Int) else g.c8,g.bj⟩) hb;refine ⟨T2,cZ,by omega,aL,?_⟩;rw[<- n8];exact T0
theorem GW (h:ev g=0):ev (ld g).1=0/\(ld g).2.2.2=0/\eL (ld g).1.aD+(ld g).2.1.length=eL g.aD/\(ld g).1.aD.length<=4/\(∀ p ∈ (ld g).1.aD,p ∈ g.aD):=by
 obtain ⟨hh,b,hb,J,aa⟩:=pr h;unfold gj at hh;unfold ld;rw[ah (by omega)];split
 ·rename_i hc;dsimp only
  match GX:g.aD,hc.1 with
  | p :: r,_=>
   rw[GX] at hb hc;have pn:p.aP=g.bQ:=hc.2;unfold fe at hb;split at hb
   ·rename_i hq;have bW:=sV hb;refine ⟨?_,rfl,?_,?_,fun q hq=>ha _ hq⟩
    ·refine MV (b:=b) ⟨?_,hh.2.1,?_,hh.2.2.2.1,?_⟩ ?_ J aa
     ·show 0<=g.bQ+(p.Data.length:Int);omega
     ·show g.bQ+(p.Data.length:Int)<=g.bj;omega
     ·have:=hh.2.2.2.2;rw[GX] at this;simp at this ⊢;omega
     ·show fe true (g.bQ+(p.Data.length:Int)) r=some b;rw[<- pn];exact TZ hb
    ·show eL r+p.Data.length=p.Data.length+eL r;omega
    ·have:=hh.2.2.2.2;rw[GX] at this;simp at this ⊢;omega
   ·cases hb
 ·exact⟨h,rfl,by simp,hh.2.2.2.2,fun p ar=>ar⟩
end
section
set_option maxRecDepth 100000
attribute [local irreducible] cE a6 bu GStep Fn cg bf
def u0 (s:ee):Prop:=s.Over=true/\(s.Data.length=0\/s.cI=[aK.mk 0 ((s.Data.length:Int) - 1)])
noncomputable def p5 (s:ee):Bool:=yes (mM s/\u0 s)
theorem T3 (h:l.length=1):l=[l.getD 0 default]:=by
 rcases l with _ | ⟨x,_ | ⟨y,r⟩⟩
 ·simp at h
 ·rfl
 ·simp at h
theorem SD (s:ee) (hw:hg s):Fn Tryz.prog 250 [.agg (fc s)] (.bN [ab (p5 s),I (lE s)]):=by
 have J:=CF s hw;obtain ⟨c4,du,w3,e9,fa,gy,hL⟩:=hw;rcases r6 s with⟨ai,bP⟩ | ⟨ai,re⟩
 ·rw[ai] at J ⊢;have hb:p5 s=yes (u0 s):=by unfold p5;by_cases h:u0 s;rw[j6 h,j6 ⟨bP,h⟩];rw[jM h,jM (fun q=>h q.2)]
  rw[hb];clear hb bP fa hL;obtain ⟨data,fin,next,jy,lost,dO,hT,b8⟩:=s;unfold u0;dsimp only at *
  cases b8
  ·rw[jM (fun h=>by cases h.1)];refine aH Tryz.func250 ?_;(refine bH J ?_;and_intros <;> intros)
   all_goals first
    | exact bX (hr:=rfl)
    | skip
  ·dsimp only[fc] at J ⊢;refine aH Tryz.func250 ?_;(refine bH J ?_;and_intros <;> intros)
   all_goals first
    | (refine bX (hr:=?_);rw[j6 ⟨rfl,.inl (by omega)⟩])
    | (refine bX (hr:=?_);rw[j6 ⟨rfl,.inr (by have h:=‹_/\_›;rw[T3 (l:=dO) (by omega),show dO.getD 0 default=aK.mk 0 ((data.length:Int) - 1) from BI h.1 h.2.1])⟩])
    | (refine bX (hr:=?_);rw[jM (fun h=>by rcases h.2 with h|h;omega;(rw[h] at *;simp_all))])
    | skip
 ·rw[ai] at J ⊢;rw[show p5 s=false from jM (fun h=>re h.1)];refine aH Tryz.func250 ?_;(refine bH J ?_;and_intros <;> intros)
  all_goals exact bX (hr:=rfl)
end
section
set_option maxRecDepth 100000
attribute [local irreducible] cE a6 bu GStep Fn cg bf cA
def ks (nx:Int):List aK->Int
 | []=>0
 | r :: l=>if r.bE<0\/r.bz<r.bE then 3 else if nx<=r.bz then 13 else ks nx l
theorem MY {nx:Int} {k:Nat} (h:k<l.length):ks nx (l.drop k)=if (l.getD k default).bE<0\/(l.getD k default).bz<(l.getD k default).bE then 3 else if nx<=(l.getD k default).bz then 13 else ks nx (l.drop (k+1)):=by
 rw[drop_cons h];rfl
theorem CG {nx:Int}:∀ {l:List aK},ks nx l=0 -> ∀ r ∈ l,0<=r.bE/\r.bE<=r.bz/\r.bz<nx
 | [],_,r,hr=>by cases hr
 | x :: l,h,r,hr=>by
  unfold ks at h;split at h
  ·cases h
  ·split at h
   ·cases h
   ·rcases hX.1 hr with rfl|hr
    ·omega
    ·exact CG h r hr
theorem MZ (nx:Int):∀ l:List aK,ks nx l=0\/ks nx l=3\/ks nx l=13
 | []=>.inl rfl
 | r :: l=>by
  unfold ks;split
  ·exact .inr (.inl rfl)
  ·split
   ·exact .inr (.inr rfl)
   ·exact MZ nx l
def qq (l:List aK) (t:Int) (k:Nat):Int:=(l.take k).foldl (fun t r=>max t r.bz) t
theorem GY {k:Nat} (h:k<l.length) (t:Int):qq l t (k+1)=max (qq l t k) (l.getD k default).bz:=by
 unfold qq;rw[mN h,List.foldl_append];rfl
theorem CH {l:List aK} {t nx:Int} (ht : -1<=t) (M0:t<nx) (av:∀ r ∈ l,0<=r.bE/\r.bE<=r.bz/\r.bz<nx):∀ k,k<=l.length -> -1<=qq l t k/\qq l t k<nx
 | 0,_=>⟨ht,M0⟩
 | k+1,ag=>by
  obtain ⟨J,aa⟩:=CH ht M0 av k (by omega);have az:=av _ (cc (show k<l.length by omega));rw[GY (by omega)];omega
def yM (s:ey) (l:List aK):List eN:=s.aR.filter (fun p=>eQ l p.Number)
def n9 (s:ey) (l:List aK):List eN:=s.aR.filter (fun p=>!eQ l p.Number)
def mO (s:ey) (l:List aK):Int:=qq l s.c9 l.length
def qs (e:Int):V:=.bN [.agg (iB ⟨0,[],0,[],[]⟩),.ro [],.ro [],I e]
noncomputable def fr (s:ey) (l:List aK):ey×List eN×List eN×Int:=
 if lf s≠0 then(⟨0,[],0,[],[]⟩,[],[],lf s) else if ks s.Next l≠0 then(⟨0,[],0,[],[]⟩,[],[],ks s.Next l)
 else if s.bI.any (eQ l)=true then(⟨0,[],0,[],[]⟩,[],[],13)
 else(⟨s.Next,(n9 s l).filter (fun p=>!decide (p.Number<=mO s l - 3)),mO s l,s.cD,s.bI⟩,yM s l,(n9 s l).filter (fun p=>decide (p.Number<=mO s l - 3)),0)
def r7 (r:ey×List eN×List eN×Int):V:=.bN [.agg (iB r.1),.ro (r.2.1.map bC),.ro (r.2.2.1.map bC),I r.2.2.2]
theorem M1 {s:ey} (h:lf s≠0):r7 (fr s l)=qs (lf s):=by unfold fr;rw[al h];rfl
theorem CI {s:ey} {c:Int} (h:lf s=0) (hc:ks s.Next l=c) (ai:c≠0):r7 (fr s l)=qs c:=by unfold fr;rw[ah (by omega),hc,al ai];rfl
theorem M2 {s:ey} (h:lf s=0) (hc:ks s.Next l=0) (aw:s.bI.any (eQ l)=true):r7 (fr s l)=qs 13:=by unfold fr;rw[ah (by omega),hc,ah (by omega),al aw];rfl
theorem GZ {s:ey} (h:lf s=0) (hc:ks s.Next l=0) (aw:s.bI.any (eQ l)=false):fr s l=(⟨s.Next,(n9 s l).filter (fun p=>!decide (p.Number<=mO s l - 3)),mO s l,s.cD,s.bI⟩,yM s l,(n9 s l).filter (fun p=>decide (p.Number<=mO s l - 3)),0):=by
 unfold fr;rw[ah (by omega),hc,ah (by omega),ah (by rw[aw];simp)]
theorem M3 {l:List Int} {k:Nat} {q:Int->Bool} (h:k<l.length):(l.take (k+1)).any q=((l.take k).any q || q (l.getD k default)):=by
 rw[mN h,List.any_append];simp only[List.any_cons,List.any_nil,Bool.or_false]
theorem M4 {l:List Int} {k:Nat} {q:Int->Bool} (h:k<l.length) (hq:q (l.getD k default)=true):l.any q=true:=List.any_eq_true.2 ⟨_,cc h,hq⟩
theorem T4 (s:ey) (l:List aK) (hw:gM s) (ao:l.length * 16<=140737488351232):Fn Tryz.prog 242 [.agg (iB s),.ro (l.map aB)] (r7 (fr s l)):=by
 have J:=G0 s hw;rcases r8 s with⟨ai,ae⟩ | ⟨ai,ae⟩
 ·rw[ai] at J;have hh:=ae.1.1;unfold ku at hh;have aa:=T5 s hw;refine aH Tryz.func242 ?_;(refine bH J ?_;and_intros <;> intros);refine cv (fun k:Nat=>⟨[(2,.ptr 0 0 0 0),(3,.ptr 1 0 0 0),(4,.ptr 2 0 0 0),(9,.ptr 3 0 0 0),(10,.ptr 4 0 0 0),(28,.ro (l.map aB)),(29,I l.length),(30,I k)],[(0,some (.box 43 (iB s))),(1,some (.box 40 [.ro (l.map aB)])),(2,some (.box 43 [I 0,aX,I 0,aX,aX])),(3,some (.box 338 [.fs 289 [.ptr 1 0 0 0]])),(4,some (.box 3 [I (qq l s.c9 k)]))],5,Tryz.f242.ntmps⟩)
   (fun k=>k<=l.length/\ks s.Next (l.drop k)=ks s.Next l) (fun k=>l.length - k) 0 ⟨cm _,rfl⟩ dV ?_
  rintro k ⟨ag,hc⟩;by_cases au:k<l.length
  ·have hd:=MY (nx:=s.Next) au;have ht:=GY au s.c9;by_cases b6:(l.getD k default).bE<0\/(l.getD k default).bz<(l.getD k default).bE
   ·rw[al b6] at hd;rw[CI ai (hc.symm.trans hd) (by omega)];(try refine ay ?_;and_intros <;> intros)
    all_goals (unfold qs;(exact gS))
   ·rw[ah b6] at hd;by_cases cU:s.Next<=(l.getD k default).bz
    ·rw[al cU] at hd;rw[CI ai (hc.symm.trans hd) (by omega)];(try refine ay ?_;and_intros <;> intros)
     all_goals (unfold qs;(exact gS))
    ·rw[ah cU] at hd;rw[hd] at hc;(try refine ay ?_;and_intros <;> intros);rw[<- ht]
     all_goals (exact⟨k+1,(by omega),⟨au,hc⟩,ba⟩)
  ·have ca:k=l.length:=by omega
   subst ca;rw[iJ] at hc;have hc:ks s.Next l=0:=hc.symm;have av:=CG hc;have G1:=CH hh.2.2.1 hh.2.2.2.1 av l.length (e4 _);(try refine ay ?_;and_intros <;> intros);refine cv (fun j:Nat=>⟨[(2,.ptr 0 0 0 0),(3,.ptr 1 0 0 0),(4,.ptr 2 0 0 0),(9,.ptr 3 0 0 0),(10,.ptr 4 0 0 0),(57,.ro (s.bI.map encI)),(58,I s.bI.length),(59,I j)],[(0,some (.box 43 (iB s))),(1,some (.box 40 [.ro (l.map aB)])),(2,some (.box 43 [I 0,aX,I 0,aX,aX])),(3,some (.box 338 [.fs 289 [.ptr 1 0 0 0]])),(4,some (.box 3 [I (qq l s.c9 l.length)]))],5,Tryz.f242.ntmps⟩)
    (fun j=>j<=s.bI.length/\(s.bI.take j).any (eQ l)=false) (fun j=>s.bI.length - j) 0 ⟨cm _,rfl⟩ dV ?_
   rintro j ⟨ad,br⟩;by_cases fh:j<s.bI.length
   ·have e7:=M5 l (s.bI.getD j default) ao;have l4:=M3 (q:=eQ l) fh
    cases hq:eQ l (s.bI.getD j default)
    ·rw[hq] at e7 l4;rw[br,Bool.false_or] at l4;(repeat' first|refine oQ [1] (e7) (h:=?_)|(refine ay ?_;(and_intros <;> intros))|fail)
     all_goals (exact⟨j+1,(by omega),⟨fh,l4⟩,ba⟩)
    ·rw[hq] at e7;rw[M2 ai hc (M4 fh hq)];(repeat' first|refine oQ [1] (e7) (h:=?_)|(refine ay ?_;(and_intros <;> intros))|fail)
     all_goals (unfold qs;(exact gS))
   ·have br:s.bI.any (eQ l)=false:=by rw[j9 (by omega)] at br;exact br
    have gv:=T6 l s.aR hh.2.2.2.2.1 ao;have jz:=oA (fun p=>!eQ l p.Number) s.aR;have G2:=T7 (qq l s.c9 l.length) (s.aR.filter (fun p=>!eQ l p.Number)) (by omega) G1.1 (by omega);rw[GZ ai hc br];unfold yM n9 mO;(repeat' first|(refine dL [] (aa) (h:=?_))|(refine fi [] (aa) (h:=?_))|(refine tj (aa) (h:=?_))|(refine dL [1,3,5] (gv) (h:=?_))|(refine fi [1,3,5] (gv) (h:=?_))|(refine gd [1,3,5] (gv) (h:=?_))|(refine dL [4] (G2) (h:=?_))|(refine fi [4] (G2) (h:=?_))|(refine gd [4] (G2) (h:=?_))|(refine ay ?_;(and_intros <;> intros))|fail)
    all_goals (unfold r7;(exact gS))
 ·rw[M1 (by omega)];rw[ai] at J ⊢;refine aH Tryz.func242 ?_;(refine bH J ?_;and_intros <;> intros)
  all_goals (unfold qs;(exact gS))
theorem M6 {k:Nat} {n:Int} (h:k<l.length):eY (l.drop k) n ↔ ((l.getD k default).bE<=n/\n<=(l.getD k default).bz)\/eY (l.drop (k+1)) n:=by
 rw[drop_cons h,nw]
theorem T8 (l:List aK) (n:Int) (hw:∀ y,y ∈ l->fB y) (ao:l.length * 16<=140737488355312):Fn Tryz.prog 240 [.ro (l.map aB),I n] (.bN [ab (yes (gi l=0/\eY l n)),I (gi l)]):=by
 have J:=wj l hw ao;by_cases ai:gi l=0
 ·rw[ai] at J ⊢;refine aH Tryz.func240 ?_;(refine bH J ?_;and_intros <;> intros);refine cv (fun k:Nat=>⟨[(1,I n),(14,.ro (l.map aB)),(15,I l.length),(16,I k)],[],0,Tryz.f240.ntmps⟩)
   (fun k=>k<=l.length/\(eY l n ↔ eY (l.drop k) n)) (fun k=>l.length - k) 0 ⟨cm _,Iff.rfl⟩ dV ?_
  rintro k ⟨ag,hi⟩;by_cases au:k<l.length
  ·have U:=hw _ (cc au);rw[M6 au] at hi;by_cases c:(l.getD k default).bE<=n/\n<=(l.getD k default).bz
   ·have cf:=hi.2 (.inl c);clear hi J;(try refine ay ?_;and_intros <;> intros)
    all_goals (refine bX (hr:=?_);rw[j6 ⟨rfl,cf⟩])
   ·have cf:eY l n ↔ eY (l.drop (k+1)) n:=⟨fun h=>(hi.1 h).resolve_left c,fun h=>hi.2 (.inr h)⟩;clear hi J;(try refine ay ?_;and_intros <;> intros)
    all_goals (exact⟨k+1,(by omega),⟨au,cf⟩,ba⟩)
  ·rw[List.drop_eq_nil_of_le (by omega)] at hi;have hn:¬ ((0:Int)=0/\eY l n):=fun h=>tk (hi.1 h.2)
   (try refine ay ?_;and_intros <;> intros)
   all_goals (refine bX (hr:=?_);rw[jM hn])
 ·have hn:¬ (gi l=0/\eY l n):=fun h=>ai h.1
  rw[jM hn];clear hn;generalize gi l=e at *;refine aH Tryz.func240 ?_;(refine bH J ?_;and_intros <;> intros)
  all_goals (exact gS)
theorem T9 (l:List aK) (n:Int) (av:∀ x ∈ l,b9 x) (ai:0<=n) (hn:n<=4611686018427387903) (ao:l.length * 16<=140737488355312):Fn Tryz.prog 258 [.ro (l.map aB),I n] (ab (yes (eY l n))):=by
 refine aH Tryz.func258 ?_;(try refine ay ?_;and_intros <;> intros);refine cv (fun k:Nat=>⟨[(1,I n),(7,.ro (l.map aB)),(8,I l.length),(9,I k)],[],0,Tryz.f258.ntmps⟩)
  (fun k=>k<=l.length/\(eY l n ↔ eY (l.drop k) n)) (fun k=>l.length - k) 0 ⟨cm _,Iff.rfl⟩ dV ?_
 rintro k ⟨ag,hi⟩;by_cases au:k<l.length
 ·have U:=av _ (cc au);unfold b9 at U;rw[M6 au] at hi;(refine mc ?_;and_intros <;> intros)
  all_goals first
   | (rename_i c;have cf:=hi.2 (.inl (by omega));refine bX (hr:=?_);rw[j6 cf])
   | (rename_i c;have cf:eY l n ↔ eY (l.drop (k+1)) n:=⟨fun h=>(hi.1 h).resolve_left (fun aa=>c (by omega)),fun h=>hi.2 (.inr h)⟩;clear hi;(refine ⟨k+1,?_,?_,?_⟩;rotate_left 2;(exact ba);(focus (omega));(focus (exact⟨au,cf⟩))))
   | skip
 ·rw[List.drop_eq_nil_of_le (by omega)] at hi;have hn:¬ eY l n:=fun h=>tk (hi.1 h)
  (try refine ay ?_;and_intros <;> intros)
  all_goals (refine bX (hr:=?_);rw[jM hn])
noncomputable def oa (l:List aK) (n:Int):List aK×Bool×Int:=
 if hF l ⟨n,n⟩≠0 then([],false,hF l ⟨n,n⟩) else((hy l ⟨n,n⟩).drop ((hy l ⟨n,n⟩).length - 6),!(yes (eY l n)),0)
theorem Ua (l:List aK) (n:Int) (hw:∀ y,y ∈ l->fB y) (ao:l.length * 16<=140737488351232):Fn Tryz.prog 128 [.ro (l.map aB),I n] (.bN [.ro ((oa l n).1.map aB),ab (oa l n).2.1,I (oa l n).2.2]):=by
 have J:=T8 l n hw (by omega);have aa:Fn Tryz.prog 241 [.ro (l.map aB),.agg [I n,I n]] _:=G3 l ⟨n,n⟩ hw (by omega);unfold wX at aa;unfold oa;by_cases ai:gi l=0
 ·have e:yes (gi l=0/\eY l n)=yes (eY l n):=by
   by_cases h:eY l n
   ·rw[j6 h,j6 ⟨ai,h⟩]
   ·rw[jM h,jM (fun q=>h q.2)]
  rw[e,ai] at J;generalize yes (eY l n)=b at *;by_cases az:hF l ⟨n,n⟩=0
  ·rw[ah (by omega)] at aa ⊢;have hlen:=wY l ⟨n,n⟩;generalize hy l ⟨n,n⟩=A at *;dsimp only at aa ⊢;by_cases bk:6<A.length
   ·have hY:(A.take A.length).drop (A.length - 6)=A.drop (A.length - 6):=by rw[List.take_length]
    have abL:(A.drop (A.length - 6)).length=6:=by rw[mJ];omega
    generalize A.drop (A.length - 6)=D at *
    cases b
    all_goals
     refine aH Tryz.func128 ?_;(repeat' first|refine bh J ?_|refine bh aa ?_|(refine yN (r:=D) (A.length - 6) (A.length) ?_ ?_ ?_ ?_ ?_ (h:=?_);(exact ft);(exact ft);(focus omega);(focus omega);(exact jT))|(refine yF (r:=D) (A.length - 6) (A.length) ?_ ?_ ?_ ?_ ?_ (h:=?_);(exact ft);(exact ft);(focus omega);(focus omega);(exact jT))|(refine CJ (r:=D) (A.length - 6) (A.length) ?_ ?_ ?_ ?_ ?_ (h:=?_);(exact ft);(exact ft);(focus omega);(focus omega);(exact jT))|(refine CK (r:=D) (A.length - 6) (A.length) ?_ ?_ ?_ ?_ ?_ (h:=?_);(exact ft);(exact ft);(focus omega);(focus omega);(exact jT))|(refine CL (r:=D) (A.length - 6) (A.length) ?_ ?_ ?_ ?_ ?_ (h:=?_);(exact ft);(exact ft);(focus omega);(focus omega);(exact jT))|(refine CM (r:=D) (A.length - 6) (A.length) ?_ ?_ ?_ ?_ ?_ (h:=?_);(exact ft);(exact ft);(focus omega);(focus omega);(exact jT))|refine h0 (D.map aB) ?_|(refine ay ?_;(and_intros <;> intros))|fail)
     all_goals first|exact fq|skip
   ·rw[show A.length - 6=0 by omega,List.drop_zero]
    cases b
    all_goals
     refine aH Tryz.func128 ?_;(repeat' first|refine bh J ?_|refine bh aa ?_|refine h0 (A.map aB) ?_|(refine ay ?_;(and_intros <;> intros))|fail)
     all_goals (exact gS)
  ·rw[al az] at aa ⊢;generalize hF l ⟨n,n⟩=e at *
   cases b
   all_goals
    refine aH Tryz.func128 ?_;(refine jJ J aa ?_;and_intros <;> intros)
    all_goals (exact gS)
 ·have e:hF l ⟨n,n⟩=gi l:=by unfold hF;rw[al ai]
  rw[e,al ai];have hn:¬ (gi l=0/\eY l n):=fun h=>ai h.1
  rw[jM hn] at J;clear aa e hn;generalize gi l=e at *;refine aH Tryz.func128 ?_;(refine bH J ?_;and_intros <;> intros)
  all_goals (exact gS)
theorem Ub (l:List aK) (n:Int) (hw:∀ y,y ∈ l->fB y) (ao:l.length * 16<=140737488351232):Fn Tryz.prog 145 [.ro (l.map aB),I n] (.bN [.ro ((oa l n).1.map aB),ab (oa l n).2.1,I (oa l n).2.2]):=by
 have J:Fn Tryz.prog 256 [.ro (l.map aB),.agg [I n,I n]] _:=Uc l ⟨n,n⟩ hw (by omega);unfold oa;by_cases ai:hF l ⟨n,n⟩=0
 ·obtain ⟨aw,hr⟩:=CN ai;have aa:=M7 l ⟨n,n⟩ aw hr ao;have az:=T9 l n (fun x U=>(iC aw x U).1) hr.1 hr.2.2 (by omega);rw[ai] at J ⊢;rw[ah (by omega)];have hlen:=wY l ⟨n,n⟩;generalize hy l ⟨n,n⟩=A at *;generalize yes (eY l n)=b at *;generalize hd:(A.length - 6:Nat)=d;dsimp only
  cases b
  all_goals
   refine aH Tryz.func145 ?_;(repeat' first|refine bh J ?_|refine bh aa ?_|refine bh az ?_|refine eP (l.map aB) ?_|refine h0 ((l++[aK.mk n n]).map aB) ?_|(refine yN (r:=(A.drop d)) (d) (A.length) ?_ ?_ ?_ ?_ ?_ (h:=?_);(exact ft);(exact ft);(focus omega);(focus omega);(exact jT))|(refine yF (r:=(A.drop d)) (d) (A.length) ?_ ?_ ?_ ?_ ?_ (h:=?_);(exact ft);(exact ft);(focus omega);(focus omega);(exact jT))|(refine CJ (r:=(A.drop d)) (d) (A.length) ?_ ?_ ?_ ?_ ?_ (h:=?_);(exact ft);(exact ft);(focus omega);(focus omega);(exact jT))|(refine CK (r:=(A.drop d)) (d) (A.length) ?_ ?_ ?_ ?_ ?_ (h:=?_);(exact ft);(exact ft);(focus omega);(focus omega);(exact jT))|(refine CL (r:=(A.drop d)) (d) (A.length) ?_ ?_ ?_ ?_ ?_ (h:=?_);(exact ft);(exact ft);(focus omega);(focus omega);(exact jT))|(refine CM (r:=(A.drop d)) (d) (A.length) ?_ ?_ ?_ ?_ ?_ (h:=?_);(exact ft);(exact ft);(focus omega);(focus omega);(exact jT))|(refine ay ?_;(and_intros <;> intros))|fail)
   all_goals (exact gS)
 ·rw[al ai];generalize hF l ⟨n,n⟩=e at *;refine aH Tryz.func145 ?_;(refine bH J ?_;and_intros <;> intros)
  all_goals (exact gS)
theorem Ud (s:ey) (hw:gM s):Fn Tryz.prog 127 [.agg (iB s)] (.agg (iB s)):=by
 have ao:=hw.2.1;have hU:=hw.2.2.2.2.1;have iZ:=hw.2.2.2.2.2.2.1;refine aH Tryz.func127 ?_;(try refine ay ?_;and_intros <;> intros);refine cv (fun k:Nat=>⟨[(1,.ptr 0 0 0 0),(2,.ptr 1 0 0 0),(7,.ro (s.aR.map bC)),(8,I s.aR.length),(9,I k),(3,.own 2)],[(0,some (.box 43 (iB s))),(1,some (.box 43 [I 0,aX,I 0,aX,aX])),(2,some (.row 198 4 ((s.aR.take k).map bC)))],3,Tryz.f127.ntmps⟩)
  (fun k=>k<=s.aR.length) (fun k=>s.aR.length - k) 0 (cm _) ((iR (n:=2) (t:=3) 198 4 rfl rfl rfl).trans dV) ?_
 intro k ag;by_cases au:k<s.aR.length
 ·have hf:=hw.2.2.1 _ (cc au);have J:=M8 (s.aR.getD k default).Frames hf.2.2.2.2 hf.2.2.2.1;(repeat' first|refine bh J ?_|refine eP ((s.aR.take (k+1)).map bC) ?_|(refine ay ?_;(and_intros <;> intros))|fail)
  all_goals (exact⟨k+1,(by omega),au,ba⟩)
 ·have ca:k=s.aR.length:=by omega
  subst ca;rw[List.take_length];(repeat' first|refine eP (s.cD.map aB) ?_|refine eP (s.bI.map encI) ?_|(refine ay ?_;(and_intros <;> intros))|fail)
  all_goals (exact gS)
def CO:ey:=⟨0,[],0,[],[]⟩
noncomputable def km (s:ey) (n:Int):ey×Bool×Int:=
 if lf s≠0 then(CO,false,lf s) else if ¬ (0<=n/\n<=4611686018427387903) then(CO,false,6)
 else if s.cD.length=6/\n<(s.cD.getD 0 default).bE then(s,false,0)
 else(⟨s.Next,s.aR,s.c9,(oa s.cD n).1,s.bI⟩,(oa s.cD n).2.1,0)
def wG (r:ey×Bool×Int):V:=.bN [.agg (iB r.1),ab r.2.1,I r.2.2]
theorem Ue (s:ey) (n:Int) (hw:gM s):Fn Tryz.prog 61 [.agg (iB s),I n] (wG (km s n)):=by
 have J:=G0 s hw;have aa:=Ud s hw;have az:=Ua s.cD n hw.2.2.2.2.2.1 hw.2.2.2.2.1;clear hw;unfold km wG;rcases r8 s with⟨ai,ae⟩ | ⟨ai,ae⟩
 ·rw[ai] at J ⊢;rw[ah (by omega)];clear ae ai;generalize oa s.cD n=q at *;obtain ⟨q,b,e⟩:=q;dsimp only at az;by_cases b6:0<=n/\n<=4611686018427387903
  ·rw[ah (fun h=>h b6)];by_cases cU:s.cD.length=6
   ·by_cases ek:n<(s.cD.getD 0 default).bE
    ·rw[al ⟨cU,ek⟩];clear az;refine aH Tryz.func61 ?_;(refine jJ J aa ?_;and_intros <;> intros)
     all_goals first|exact fq|skip
    ·rw[ah (fun h=>ek h.2)]
     cases b
     all_goals refine aH Tryz.func61 ?_
     all_goals (refine pt J aa az ?_;and_intros <;> intros)
     all_goals first|exact fq|skip
   ·rw[ah (fun h=>cU h.1)]
    cases b
    all_goals refine aH Tryz.func61 ?_
    all_goals (refine pt J aa az ?_;and_intros <;> intros)
    all_goals first|exact fq|skip
  ·rw[al b6];clear aa az;refine aH Tryz.func61 ?_;(refine bH J ?_;and_intros <;> intros)
   all_goals first|exact fq|skip
 ·rw[ai] at J ⊢;rw[al (by omega)];clear aa az;refine aH Tryz.func61 ?_;(refine bH J ?_;and_intros <;> intros)
  all_goals first|exact fq|skip
theorem Tn (s:ey) (n:Int) (hw:gM s):Fn Tryz.prog 68 [.agg (iB s),I n] (wG (km s n)):=by
 have J:=FZ s hw;have az:=Ub s.cD n hw.2.2.2.2.2.1 hw.2.2.2.2.1;clear hw;unfold km wG;rcases r8 s with⟨ai,ae⟩ | ⟨ai,ae⟩
 ·rw[ai] at J ⊢;rw[ah (by omega)];clear ae ai;generalize oa s.cD n=q at *;obtain ⟨q,b,e⟩:=q;dsimp only at az;by_cases b6:0<=n/\n<=4611686018427387903
  ·rw[ah (fun h=>h b6)];by_cases cU:s.cD.length=6
   ·by_cases ek:n<(s.cD.getD 0 default).bE
    ·rw[al ⟨cU,ek⟩];clear az;refine aH Tryz.func68 ?_;(refine rI ?_;and_intros <;> intros)
     all_goals first|exact fq|skip
    ·rw[ah (fun h=>ek h.2)]
     cases b
     all_goals refine aH Tryz.func68 ?_
     all_goals (repeat' first|refine bh J ?_|refine bh az ?_|(refine h4 (hW _ _) (ht:=?_) (hff:=?_) <;> intro _ <;> try (exfalso;omega))|(refine h5 (hW _ _) (ht:=?_) (hff:=?_) <;> intro _ <;> try (exfalso;omega))|(refine ay ?_;(and_intros <;> intros))|fail)
     all_goals first|exact fq|skip
   ·rw[ah (fun h=>cU h.1)]
    cases b
    all_goals refine aH Tryz.func68 ?_
    all_goals (repeat' first|refine bh J ?_|refine bh az ?_|(refine h4 (hW _ _) (ht:=?_) (hff:=?_) <;> intro _ <;> try (exfalso;omega))|(refine h5 (hW _ _) (ht:=?_) (hff:=?_) <;> intro _ <;> try (exfalso;omega))|(refine ay ?_;(and_intros <;> intros))|fail)
    all_goals first|exact fq|skip
  ·rw[al b6];clear az;refine aH Tryz.func68 ?_;(refine rI ?_;and_intros <;> intros)
   all_goals first|exact fq|skip
 ·rw[ai] at J ⊢;rw[al (by omega)];clear az;refine aH Tryz.func68 ?_;(refine bH J ?_;and_intros <;> intros)
  all_goals first|exact fq|skip
end
section
set_option maxRecDepth 100000
def j3 (f:hz) (n:Int):hz×Int:=if gT f then(if n<0 then(⟨0,0⟩,6) else if f.Max - f.bG<n then(⟨0,0⟩,11) else(⟨f.Max,f.bG+n⟩,0)) else(⟨0,0⟩,9)
def k7 (f:hz) (n:Int):hz×Int:=if gT f then(if n<0\/4611686018427387903<n then(⟨0,0⟩,6) else(⟨max f.Max n,f.bG⟩,0)) else(⟨0,0⟩,9)
def pF (p:gA) (n s:Int):gA×Int:=
 if lg p [n,s]≠0 then(⟨0,0,0,0⟩,lg p [n,s])
 else if p.c0<n then(⟨0,0,0,0⟩,13)
 else if s<=p.Since then(⟨p.bj,p.dy,p.c0 - n,p.Since⟩,0)
 else(⟨min (if p.dy=0\/p.bj<p.dy then p.bj+n else p.bj+100 * n / p.bj) 1099511627776,p.dy,p.c0 - n,p.Since⟩,0)
def lh:Nat->aG->Int->aG×Int
 | 0,c,id=>(c,if c.cN<=id then 8 else 0)
 | n+1,c,id=>if c.cN<=id then lh n (kJ c) id else(c,0)
def eV (c:aG) (id:Int):aG×Int:=
 if c.Client=true then(c,if c.cN<=id then 5 else 0) else if c.gR<=id then(c,11) else lh (4 - c.aq.length) c id
def dM (c:aG) (f:hz):aG:={ c with di:=f }
def cV (c:aG) (n:Nat):cS:=c.aq.getD n default
def rf (c:aG) (n:Nat) (f:bo):aG×Int:=
 if (cV c n).Cut=true then(c,0)
 else if (iv (cV c n).In f.aP f.Data f.Fin).2≠0 then(c,(iv (cV c n).In f.aP f.Data f.Fin).2)
 else if (j3 c.di (eO (iv (cV c n).In f.aP f.Data f.Fin).1 - eO (cV c n).In)).2≠0 then(c,(j3 c.di (eO (iv (cV c n).In f.aP f.Data f.Fin).1 - eO (cV c n).In)).2)
 else if 800<((cV c n).Read++(ld (iv (cV c n).In f.aP f.Data f.Fin).1).2.1).length then(dM c (j3 c.di (eO (iv (cV c n).In f.aP f.Data f.Fin).1 - eO (cV c n).In)).1,1)
 else(dw (dM c (j3 c.di (eO (iv (cV c n).In f.aP f.Data f.Fin).1 - eO (cV c n).In)).1) n { cV c n with In:=(ld (iv (cV c n).In f.aP f.Data f.Fin).1).1,Read:=(cV c n).Read++(ld (iv (cV c n).In f.aP f.Data f.Fin).1).2.1,Over:=(ld (iv (cV c n).In f.aP f.Data f.Fin).1).2.2.1 },0)
def gJ (c:aG) (n:Int):aG:={ c with gP:=n }
def oD (c:aG) (n:Nat) (f:bo):aG×Int:=
 if (cV c n).Cut=true then(c,0)
 else if f.aP<eO (cV c n).In\/(0<=(cV c n).In.c8/\(cV c n).In.c8≠f.aP) then(c,12)
 else if (cV c n).In.bj<f.aP then(c,11)
 else if (j3 c.di (f.aP - eO (cV c n).In)).2≠0 then(c,(j3 c.di (f.aP - eO (cV c n).In)).2)
 else if c.gP=4 then(dM c (j3 c.di (f.aP - eO (cV c n).In)).1,8)
 else(dw (gJ (dM c (j3 c.di (f.aP - eO (cV c n).In)).1) (c.gP+1)) n { cV c n with Cut:=true,Over:=true,In:=⟨f.aP,[],f.aP,(cV c n).In.bj⟩ },0)
def oF (id off code:Int):bo:=⟨4,id,off,false,code,[],[]⟩
def po (s:ee):ee:=⟨List.replicate s.Next.toNat 0,true,s.Next,max s.Max s.Next,[],if 0<s.Next then[⟨0,s.Next - 1⟩] else[],false,true⟩
noncomputable def p4 (c:aG) (n:Nat) (f:bo):aG×Int:=
 if p5 (cV c n).Out=true then(c,0)
 else(fE (dw c n { cV c n with Out:=po (cV c n).Out }) (fK c.Queue (oF f.Id (cV c n).Out.Next f.Code)).1,(fK c.Queue (oF f.Id (cV c n).Out.Next f.Code)).2)
noncomputable def p7 (c:aG) (n:Nat) (f:bo):aG×Int:=
 if (mE (cV c n).Out f.aP).2=0 then(dw c n { cV c n with Out:=(mE (cV c n).Out f.aP).1 },0) else(c,(mE (cV c n).Out f.aP).2)
noncomputable def iU (g:aG->Nat->bo->aG×Int) (c:aG) (f:bo):aG×Int:=
 if (eV c f.Id).2=0 then(if b7 (eV c f.Id).1.aq f.Id<(eV c f.Id).1.aq.length then g (eV c f.Id).1 (b7 (eV c f.Id).1.aq f.Id) f else((eV c f.Id).1,0)) else((eV c f.Id).1,(eV c f.Id).2)
noncomputable def ny (c:aG) (x:bo):aG×Int:=
 if x.Kind=8/\b7 c.aq x.Id<c.aq.length then(if (lF (mI c x.Id).Out x.aP x.Data.length x.Fin).2=0 then(dw c (b7 c.aq x.Id) { mI c x.Id with Out:=(lF (mI c x.Id).Out x.aP x.Data.length x.Fin).1 },0) else(c,(lF (mI c x.Id).Out x.aP x.Data.length x.Fin).2)) else(c,0)
noncomputable def kv:aG->List bo->aG×Int
 | c,[]=>(c,0)
 | c,f :: l=>if (ny c f).2=0 then kv (ny c f).1 l else ny c f
def r9 (c:aG) (p:eN):gA:=(pF c.cy (min p.hG c.cy.c0) p.Time).1
noncomputable def kQ:aG->List eN->aG×Int
 | c,[]=>(c,0)
 | c,p :: l=>if (kv (kL c (r9 c p)) p.Frames).2=0 then kQ (kv (kL c (r9 c p)) p.Frames).1 l else kv (kL c (r9 c p)) p.Frames
noncomputable def qt (c:aG) (f:bo) (now:Int):aG×Int:=
 if (fr c.aQ f.ec).2.2.2=0 then(if (kQ (iy c (fr c.aQ f.ec).1) (fr c.aQ f.ec).2.1).2=0 then jN now (kQ (iy c (fr c.aQ f.ec).1) (fr c.aQ f.ec).2.1).1 (fr c.aQ f.ec).2.2.1 else kQ (iy c (fr c.aQ f.ec).1) (fr c.aQ f.ec).2.1) else(c,(fr c.aQ f.ec).2.2.2)
def B2 (c:aG) (f:hz):aG:={ c with eh:=f }
def ym (c:aG) (n:Int):aG:={ c with gQ:=n }
def mq (c:aG) (code:Int):aG:={ c with fj:=true,Code:=code,Queue:=[],aq:=[],fT:=false }
def tl (code:Int):bo:=⟨27,0,0,false,code,[],[]⟩
noncomputable def gY (c:aG) (f:bo) (now:Int):aG×Int:=
 if f.Kind=2 then qt c f now
 else if f.Kind=8 then iU rf c f
 else if f.Kind=4 then iU oD c f
 else if f.Kind=5 then iU p4 c f
 else if f.Kind=16 then(B2 c (k7 c.eh f.aP).1,(k7 c.eh f.aP).2)
 else if f.Kind=17 then iU p7 c f
 else if f.Kind=18 then(if c.Client=true then ym c (max c.gQ f.aP) else c,0)
 else if f.Kind=26 then(fE c (fK c.Queue (tl f.Code)).1,(fK c.Queue (tl f.Code)).2)
 else if f.Kind=28 then(mq c f.Code,0)
 else(c,0)
def rh (id off:Int):bo:=⟨17,id,off,false,0,[],[]⟩
def ri (g:dQ):dQ:=(oO g (min (g.bQ+300) 4611686018427387903)).1
noncomputable def kR (c:aG) (n:Nat):aG×Int:=
 if (cV c n).Over=false/\(cV c n).In.bj - (cV c n).In.bQ<150 then
  (fE (dw c n { cV c n with In:=ri (cV c n).In }) (fK c.Queue (rh (cV c n).Id (ri (cV c n).In).bj)).1,(fK c.Queue (rh (cV c n).Id (ri (cV c n).In).bj)).2)
 else(c,0)
noncomputable def hV:Nat->Nat->aG->aG×Int
 | 0,_,c=>(c,0)
 | m+1,k,c=>if (kR c k).2=0 then hV m (k+1) (kR c k).1 else kR c k
def sa (off:Int):bo:=⟨16,0,off,false,0,[],[]⟩
def qu (f:hz):hz:=(k7 f (min (f.bG+700) 4611686018427387903)).1
noncomputable def lb (c:aG):aG×Int:=
  if (hV c.aq.length 0 c).2=0 then
    (if (hV c.aq.length 0 c).1.di.Max - (hV c.aq.length 0 c).1.di.bG<350 then
      (fE (dM (hV c.aq.length 0 c).1 (qu (hV c.aq.length 0 c).1.di)) (fK (hV c.aq.length 0 c).1.Queue (sa (qu (hV c.aq.length 0 c).1.di).Max)).1,(fK (hV c.aq.length 0 c).1.Queue (sa (qu (hV c.aq.length 0 c).1.di).Max)).2)
     else((hV c.aq.length 0 c).1,0))
  else hV c.aq.length 0 c
def iW (c:aG) (b:Bool):aG:={ c with fT:=b }
def oN (k:Int):Bool:=decide (k≠2) && (decide (k≠0) && decide (k≠28))
noncomputable def kN (now:Int):aG->List bo->aG×Int
 | c,[]=>(c,0)
 | c,f :: l=>if (gY (iW c (c.fT || oN f.Kind)) f now).2=0/\(gY (iW c (c.fT || oN f.Kind)) f now).1.fj=false then kN now (gY (iW c (c.fT || oN f.Kind)) f now).1 l else gY (iW c (c.fT || oN f.Kind)) f now
def nZ (c:aG) (n:Int):aG:={ c with dT:=n }
noncomputable def oM:List bo->Int
 | []=>0
 | f :: l=>if gx f=0 then oM l else gx f
noncomputable def uT (c:aG) (now:Int) (l:List bo):aG:=
 if (kN now c l).2=0 then(if (kN now c l).1.fj=true then(kN now c l).1 else if (lb (kN now c l).1).2=0 then(lb (kN now c l).1).1 else kS (lb (kN now c l).1).1 (lb (kN now c l).1).2) else kS (kN now c l).1 (kN now c l).2
noncomputable def uS (c:aG) (now number:Int) (l:List bo):aG×Bool×Int:=
 if nj c=0 then(if 0<=now/\now<=1099511627776/\l.length<=12 then(if oM l=0 then(if c.fj=true then(default,false,17)
  else if (km c.aQ number).2.2≠0 then(default,false,(km c.aQ number).2.2)
  else if (km c.aQ number).2.1=false then(c,false,0)
  else(uT (nZ (iy c (km c.aQ number).1) (max now c.dT)) (max now c.dT) l,true,0))
  else(default,false,oM l)) else(default,false,6)) else(default,false,9)
end
section
set_option maxRecDepth 100000
attribute [local irreducible] cE a6 bu GStep Fn cg bf cA
theorem LJ (f:hz) (n:Int) (hn:aE n):Fn Tryz.prog 248 [.agg (pG f),I n] (.bN [.agg (pG (j3 f n).1),I (j3 f n).2]):=by
 have hc:=CP f;unfold j3;unfold aE at hn;by_cases h:gT f
 ·rw[wZ h] at hc;rw[al h];unfold gT at h;by_cases J:n<0
  ·rw[al J];refine aH Tryz.func248 ?_;(refine bH hc ?_;and_intros <;> intros)
   all_goals first|exact dA|skip
  ·rw[ah J];by_cases aa:f.Max - f.bG<n
   ·rw[al aa];refine aH Tryz.func248 ?_;(refine bH hc ?_;and_intros <;> intros)
    all_goals first|exact dA|skip
   ·rw[ah aa];refine aH Tryz.func248 ?_;(refine bH hc ?_;and_intros <;> intros)
    all_goals first|exact dA|skip
 ·rw[w1 h] at hc;rw[ah h];refine aH Tryz.func248 ?_;(refine bH hc ?_;and_intros <;> intros)
  all_goals first|exact dA|skip
theorem Lz (f:hz) (n:Int) (hn:aE n):Fn Tryz.prog 154 [.agg (pG f),I n] (.bN [.agg (pG (j3 f n).1),I (j3 f n).2]):=by
 have hc:=Cb f;unfold j3;unfold aE at hn;by_cases h:gT f
 ·rw[wZ h] at hc;rw[al h];unfold gT at h;by_cases J:n<0
  ·rw[al J];refine aH Tryz.func154 ?_;(refine bH hc ?_;and_intros <;> intros)
   all_goals first|exact dA|skip
  ·rw[ah J];by_cases aa:f.Max - f.bG<n
   ·rw[al aa];refine aH Tryz.func154 ?_;(refine bH hc ?_;and_intros <;> intros)
    all_goals first|exact dA|skip
   ·rw[ah aa];refine aH Tryz.func154 ?_;(refine bH hc ?_;and_intros <;> intros)
    all_goals first|exact dA|skip
 ·rw[w1 h] at hc;rw[ah h];refine aH Tryz.func154 ?_;(refine bH hc ?_;and_intros <;> intros)
  all_goals first|exact dA|skip
theorem LF (f:hz) (n:Int):Fn Tryz.prog 136 [.agg (pG f),I n] (.bN [.agg (pG (k7 f n).1),I (k7 f n).2]):=by
 have hc:=CP f;unfold k7;by_cases h:gT f
 ·rw[wZ h] at hc;rw[al h];unfold gT at h;by_cases J:n<0\/4611686018427387903<n
  ·rw[al J];refine aH Tryz.func136 ?_;(refine bH hc ?_;and_intros <;> intros)
   all_goals first|exact dA|skip
  ·rw[ah J];refine aH Tryz.func136 ?_;(refine bH hc ?_;and_intros <;> intros)
   all_goals first|exact dA|skip
 ·rw[w1 h] at hc;rw[ah h];refine aH Tryz.func136 ?_;(refine bH hc ?_;and_intros <;> intros)
  all_goals first|exact dA|skip
theorem Uf (f:hz) (n:Int):Fn Tryz.prog 147 [.agg (pG f),I n] (.bN [.agg (pG (k7 f n).1),I (k7 f n).2]):=by
 have hc:=Cb f;unfold k7;by_cases h:gT f
 ·rw[wZ h] at hc;rw[al h];unfold gT at h;by_cases J:n<0\/4611686018427387903<n
  ·rw[al J];refine aH Tryz.func147 ?_;(repeat' first|refine bh hc ?_|(refine h4 (hW _ _) (ht:=?_) (hff:=?_) <;> intro _ <;> try (exfalso;omega))|(refine h5 (hW _ _) (ht:=?_) (hff:=?_) <;> intro _ <;> try (exfalso;omega))|(refine ay ?_;(and_intros <;> intros))|fail)
   all_goals first|exact dA|skip
  ·rw[ah J,Int.max_comm];refine aH Tryz.func147 ?_;(repeat' first|refine bh hc ?_|(refine h4 (hW _ _) (ht:=?_) (hff:=?_) <;> intro _ <;> try (exfalso;omega))|(refine h5 (hW _ _) (ht:=?_) (hff:=?_) <;> intro _ <;> try (exfalso;omega))|(refine ay ?_;(and_intros <;> intros))|fail)
   all_goals first|exact dA|skip
 ·rw[w1 h] at hc;rw[ah h];refine aH Tryz.func147 ?_;(refine bH hc ?_;and_intros <;> intros)
  all_goals first|exact dA|skip
theorem Ug (p:gA) (n s:Int):Fn Tryz.prog 243 [.agg (nz p),I n,I s] (.bN [.agg (nz (pF p n s).1),I (pF p n s).2]):=by
 have J:=M9 p [n,s] (by simp);unfold pF;by_cases ai:lg p [n,s]=0
 ·obtain ⟨ae,ao⟩:=w2 ai;rw[ai] at J ⊢;rw[ah (by omega)];unfold mP at ae;have br:=ao n (by simp);have hb:=ao s (by simp);unfold mQ at br hb;by_cases aa:p.c0<n
  ·rw[al aa];refine aH Tryz.func243 ?_;(refine bH J ?_;and_intros <;> intros)
   all_goals first|exact dA|skip
  ·rw[ah aa];by_cases az:s<=p.Since
   ·rw[al az];refine aH Tryz.func243 ?_;(refine bH J ?_;and_intros <;> intros)
    all_goals first|exact dA|skip
   ·rw[ah az];by_cases bk:p.dy=0\/p.bj<p.dy
    ·rw[al bk];refine aH Tryz.func243 ?_;(refine bH J ?_;and_intros <;> intros)
     all_goals first|exact dA|skip
    ·rw[ah bk];have hq:0<=100 * n / p.bj/\100 * n / p.bj<=109951162777600:=by
      refine ⟨Int.ediv_nonneg (by omega) (by omega),?_⟩;exact Int.le_trans (Int.ediv_le_self _ (by omega)) (by omega)
     refine aH Tryz.func243 ?_;(refine bH J ?_;and_intros <;> intros)
     all_goals first|exact dA|skip
 ·rw[al ai];generalize lg p [n,s]=e at *;refine aH Tryz.func243 ?_;(refine bH J ?_;and_intros <;> intros)
  all_goals first|exact dA|skip
theorem Uh (p:gA) (hw:h2 p) (n s:Int):Fn Tryz.prog 260 [.agg (nz p),I n,I s] (.bN [.agg (nz (pF p n s).1),I (pF p n s).2]):=by
 have J:=Na p hw [n,s] (by simp);unfold pF;by_cases ai:lg p [n,s]=0
 ·obtain ⟨ae,ao⟩:=w2 ai;rw[ai] at J ⊢;rw[ah (by omega)];unfold mP at ae;have br:=ao n (by simp);have hb:=ao s (by simp);unfold mQ at br hb;have hq:0<=100 * n / p.bj/\100 * n / p.bj<=109951162777600:=by
   refine ⟨Int.ediv_nonneg (by omega) (by omega),?_⟩;exact Int.le_trans (Int.ediv_le_self _ (by omega)) (by omega)
  by_cases aa:p.c0<n
  ·rw[al aa];refine aH Tryz.func260 ?_;(refine bH J ?_;and_intros <;> intros)
   all_goals first|exact dA|skip
  ·rw[ah aa];by_cases az:s<=p.Since
   ·rw[al az];refine aH Tryz.func260 ?_;(refine bH J ?_;and_intros <;> intros)
    all_goals first|exact dA|skip
   ·rw[ah az];by_cases bk:p.dy=0\/p.bj<p.dy
    ·rw[al bk,Int.min_comm];refine aH Tryz.func260 ?_;(refine bH J ?_;and_intros <;> intros)
     all_goals first|exact dA|skip
    ·rw[ah bk,Int.min_comm];refine aH Tryz.func260 ?_;(refine bH J ?_;and_intros <;> intros)
     all_goals first|exact dA|skip
 ·rw[al ai];generalize lg p [n,s]=e at *;refine aH Tryz.func260 ?_;(refine bH J ?_;and_intros <;> intros)
  all_goals first|exact dA|skip
end
end Go.Proofs.YtendheafcbickaaGreat
