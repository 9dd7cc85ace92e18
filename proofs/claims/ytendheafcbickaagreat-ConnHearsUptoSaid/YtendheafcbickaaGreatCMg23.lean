/-
  SEVERAL TEXTS IN ONE: each with its own comment.
-/
import Derived.Test.YtendheafcbickaaGreatCMg26
set_option linter.unusedVariables false
set_option linter.unusedSimpArgs false
set_option maxHeartbeats 16000000
namespace Go.Proofs.YtendheafcbickaaGreat
variable {bq st:aW} {dW l:List (List V)} {f:bo} {fin:Bool} {k:Nat} {n off:Int} {q:eN->Bool} {s:ee}
section
open Go.RowKit
section
variable {P:Program} {n0:Nat}
def rA (a b x:Nat):Nat:=bif Nat.beq x a then b else x
theorem YD (a b:Nat):rA a b a=b:=by unfold rA;rw[Nat.beq_refl];rfl
theorem YE {a b x:Nat} (h:x≠a):rA a b x=x:=by
 unfold rA
 cases e:Nat.beq x a with
 | true=>exact absurd (iF e) h
 | false=>rfl
def Ex (m:Nat->Nat) (env:List (Nat×V)):List (Nat×V)->Prop
 | []=>True
 | (t,v) :: r=>(∃ u,cW env t=some u/\cz m u=v)/\Ex m env r
theorem Qm {m:Nat->Nat} {env:List (Nat×V)}:∀ {e:List (Nat×V)},Ex m env e -> ∀ t v,cW e t=some v -> ∃ u,cW env t=some u/\cz m u=v
 | [],_,t,v,h=>by simp[cW] at h
 | (s,x) :: r,hc,t,v,h=>by
  simp only[cW] at h
  cases hb:Nat.beq s t with
  | true=>rw[hb] at h;simp only[cond_true,ck] at h;rw[<- h,<- iF hb];exact hc.1
  | false=>rw[hb] at h;exact Qm hc.2 t v h
def Bj (m:Nat->Nat) (heap:List (Nat×Option aT)):List (Nat×Option aT)->Prop
 | []=>True
 | (_,none) :: r=>Bj m heap r
 | (id,some bd) :: r=>(∃ i B,m i=id/\aM heap i=some B/\jm m B=bd)/\Bj m heap r
theorem J6 {m:Nat->Nat} {heap:List (Nat×Option aT)}:∀ {e:List (Nat×Option aT)},Bj m heap e -> ∀ id bd,aM e id=some bd -> ∃ i B,m i=id/\aM heap i=some B/\jm m B=bd
 | [],_,t,v,h=>by simp[aM] at h
 | (s,none) :: r,hc,t,v,h=>by
  rw[cl] at h;split at h
  ·cases h
  ·exact J6 (e:=r) hc t v h
 | (s,some u) :: r,hc,t,v,h=>by
  rw[cl] at h;split at h
  ·rename_i e;subst e;injection h with h;subst h;exact hc.1
  ·exact J6 (e:=r) hc.2 t v h
theorem YF (a:Nat) (hn0:Nat.ble n0 st.next=true) (qA:Ex (rA a st.next) st.env bq.env) (rl:Bj (rA a st.next) st.heap bq.heap) (hn:bq.next=st.next+1) (hnt:bq.af=st.af):cg P n0 st bq:=fun F base w0 ρ act w hH ax=>by
 have ua:=Qm qA;have Ey:=J6 rl;clear qA rl;generalize hb:st.next=b at *
 let bl:Nat->Option Value:=fun id=>if id=b then ρ a else ρ id
 have rR:∀ id u,ρ id=some u->bl (rA a b id)=some u:=fun id u hu=>by
  by_cases e:id=a
  ·subst e;rw[YD];show(if b=b then ρ id else ρ b)=some u;rw[al rfl];exact hu
  ·rw[YE e];show(if id=b then ρ a else ρ id)=some u;have:=(hH.sup id u hu).1;rw[ah (by omega)];exact hu
 have aN:∀ i B,aM st.heap i=some B->bl (rA a b i)=ρ i:=fun i B an=>by
  have hi:∃ u,ρ i=some u:=by
   have:=hH.cJ i B an
   cases B with
   | box t cs=>obtain ⟨_,_,h,_⟩:=this;exact⟨_,h⟩
   | row e s l=>obtain ⟨_,_,_,h,_⟩:=this;exact⟨_,h⟩
   | dY l=>obtain ⟨_,h,_⟩:=this;exact⟨_,h⟩
   | map q es=>obtain ⟨_,_,_,h,_⟩:=this;exact⟨_,h⟩
   | obj o=>obtain ⟨_,h,_⟩:=this;exact⟨_,h⟩
   | mV be lL=>obtain ⟨_,_,_,_,h,_⟩:=this;exact⟨_,h⟩
   | ch e s l=>obtain ⟨_,_,_,h,_⟩:=this;exact⟨_,h⟩
   | gF q es=>obtain ⟨_,_,_,h,_⟩:=this;exact⟨_,h⟩
   | iter left cQ=>obtain ⟨_,_,_,_,_,_,_,h,_⟩:=this;exact⟨_,h⟩
  obtain ⟨u,hu⟩:=hi;rw[rR i u hu,hu]
 have lk:∀ x,bs F ρ st.heap x->bs F bl bq.heap x:=fun x h=>⟨h.1,fun id bd u an ae hu=>by
  obtain ⟨i,B,rfl,aa,rfl⟩:=Ey id bd an;rw[aN i B aa] at hu
  exact h.2 i B u aa (by rw[ot] at ae;exact ae) hu⟩
 have hS:∀ x,bs F ρ st.heap x->x<w.heap.size->bs F bl bq.heap x:=fun x h _=>lk x h
 refine ⟨bl,⟨⟨hH.below,hH.fl,fun id u hu=>?_,fun id dk B bd u dD x an b0 ae dK hu c2 U qM=>?_,fun id bd b0=>?_⟩,hH.dX⟩,⟨by rw[hnt];exact ax.size,ax.defers,fun t v ak=>?_⟩,fun id hid=>?_⟩
 ·rw[hn];have hu:(if id=b then ρ a else ρ id)=some u:=hu;split at hu
  ·have:=hH.sup a u hu;exact⟨by omega,this.2⟩
  ·have:=hH.sup id u hu;exact⟨by omega,this.2⟩
 ·obtain ⟨i,C,rfl,aa,rfl⟩:=Ey id B an;obtain ⟨j,rB,rfl,de,rfl⟩:=Ey dk bd b0;rw[aN i C aa] at hu;rw[aN j rB de] at c2;rw[ot] at ae dK;rw[hH.inj i j C rB u dD x aa de ae dK hu c2 U qM]
 ·obtain ⟨i,B,rfl,aa,rfl⟩:=Ey id bd b0;have eS:=hH.cJ i B aa;have e:=aN i B aa
  cases B with
  | box t cs=>
   obtain ⟨b,us,aL,aS,bi,cq,e3⟩:=eS;refine ⟨b,us,by rw[e];exact aL,aS,bi,by rw[kD];exact cq,fun j ad=>?_⟩;rw[kD] at ad;rw[mR ad];exact⟨tq hS rR (e3 j ad).1,(e3 j ad).2⟩
  | row ty s l=>
   obtain ⟨qT,v,xs,aL,aS,bi,cq⟩:=eS
   exact⟨qT,v,xs,by rw[e];exact aL,aS,bi,fun i j hi ad=>by
    obtain ⟨u,hu,ar,ae⟩:=cq i j hi ad
    exact⟨u,hu,ar.mono (dl.refl _ _) hS,ae⟩⟩
  | dY l=>
   obtain ⟨v,aL,aS,bi⟩:=eS;exact⟨v,by rw[e];exact aL,aS.mono (dl.refl _ _) hS,bi⟩
  | map q es=>
   obtain ⟨b,b3,clock,aL,aS⟩:=eS;exact⟨b,b3,clock,by rw[e];exact aL,aS⟩
  | obj o=>
   obtain ⟨b,aL,aS⟩:=eS;exact⟨b,by rw[e];exact aL,aS⟩
  | mV be lL=>
   obtain ⟨b,cap,cQ,jq,aL,aS⟩:=eS;exact⟨b,cap,cQ,jq,by rw[e];exact aL,aS⟩
  | ch ty s l=>
   obtain ⟨qT,v,xs,aL,aS,bi,cq⟩:=eS;refine ⟨qT,v,xs,by rw[e];exact aL,by rw[bY];exact aS,fun i hi=>?_,fun i j hi ad=>?_⟩
   ·rw[bY] at hi;rw[Bk hi,kD];exact bi i hi
   ·rw[bY] at hi;obtain ⟨u,hu,ar,ae⟩:=cq i j hi ad;rw[Bk hi,mR (by rw[bi i hi];exact ad)];exact⟨u,hu,tq hS rR ar,ae⟩
  | gF q es=>
   obtain ⟨b,b3,clock,aL,aS,bi⟩:=eS;exact⟨b,b3,clock,by rw[e];exact aL,hS b aS (gB.1 bi.1).1,bi⟩
  | iter left cQ=>
   obtain ⟨r,b,b3,clock,since,seen,dz,aL,aS,bi,cq,e3⟩:=eS;exact⟨r,b,b3,clock,since,seen,dz,by rw[e];exact aL,aS,bi,hS b cq (gB.1 e3.1).1,e3⟩
 ·obtain ⟨u,J,rfl⟩:=ua t v ak;exact tq hS rR (ax.slot t u J)
 ·show(if id=b then ρ a else ρ id)=ρ id;have:=bM hn0;rw[ah (by omega)]
theorem jg (a:Nat) (hn0:Nat.ble n0 st.next=true:=by rfl) (qA:Ex (rA a st.next) st.env bq.env:=by((repeat'(first|exact True.intro|exact⟨_,rfl,rfl⟩|refine And.intro ?_ ?_));done)) (rl:Bj (rA a st.next) st.heap bq.heap:=by((repeat'(first|exact True.intro|exact⟨0,_,rfl,rfl,rfl⟩|exact⟨1,_,rfl,rfl,rfl⟩|exact⟨2,_,rfl,rfl,rfl⟩|exact⟨3,_,rfl,rfl,rfl⟩|exact⟨4,_,rfl,rfl,rfl⟩|exact⟨5,_,rfl,rfl,rfl⟩|exact⟨6,_,rfl,rfl,rfl⟩|exact⟨7,_,rfl,rfl,rfl⟩|exact⟨8,_,rfl,rfl,rfl⟩|refine And.intro ?_ ?_));done)) (hn:bq.next=st.next+1:=by rfl) (hnt:bq.af=st.af:=by rfl):cg P n0 st bq:=YF a hn0 qA rl hn hnt
end
section
variable {P:Program} {o:Oper} {n0:Nat} {ops:List Oper} {rest:List Oper} {env:List (Nat×V)} {heap:List (Nat×Option aT)} {next af:Nat} {Q:aW->Prop}
end
theorem YG {S:Nat->Prop} {w:World} {u:Value} (hlen:dW.length=l.length) (cw:∀ i,i<l.length->(bb dW i).length=(bb l i).length) (hw:∀ i j,i<l.length->j<(bb l i).length->qb (bw (bb l i) j) (bw (bb dW i) j)) (h:gn S w (.ro l) u):gn S w (.ro dW) u:=by
 cases h with
 | ro l A c s b off us hc hm ar dC aw kX hrel=>
  rw[<- hlen] at hc dC aw kX hrel cw hw ⊢;exact .ro dW A c s b off us hc hm ar dC (fun i hi=>by rw[cw i hi];exact aw i hi) kX (fun i j hi ad=>(hw i j hi (by rw[aw i hi];exact ad)).rel (hrel i j hi ad))
section
variable {P:Program} {n0:Nat}
theorem gU {id:Nat} {Q:Exit->aW->Prop} {l:List Oper} (ws:List (Nat×Nat)) (h:bf P st.af st.next l (fun j id=>(Nat.ble st.next id && Qn l j) || J7 ws j id) st.next l st.env st.heap (Q .normal)) (hm:P.follows .mixedOrders=true:=by kernel_rfl) (bP:ms l=true:=by kernel_rfl) (hn0:Nat.ble n0 st.next=true:=by kernel_rfl) :
  cE P n0 (.region id l.toArray true) st Q:=PB _ h hm bP hn0
theorem YH (t:Nat) {v cH:V} (ak:cW st.env t=some v) (h:∀ (ρ:Nat->Option Value) (S:Nat->Prop) (w:World) (u:Value),cT ρ S w v u->cT ρ S w cH u):cg P n0 st { st with env:=(t,cH) :: st.env }:=fun F base w0 ρ a w hH ax=>
 ⟨ρ,hH,⟨ax.size,ax.defers,fun s x U=>by
  simp only[cW] at U
  cases hb:Nat.beq t s with
  | true=>
   rw[hb] at U;simp only[cond_true,ck] at U;have:=iF hb;subst this;subst U;exact h _ _ _ _ (ax.slot _ _ ak)
  | false=>rw[hb] at U;exact ax.slot _ _ U⟩,fun _ _=>rfl⟩
theorem Ol (t:Nat) (ak:cW st.env t=some (.ro l)) (hlen:dW.length=l.length) (cw:∀ i,i<l.length->(bb dW i).length=(bb l i).length) (hw:∀ i j,i<l.length->j<(bb l i).length->qb (bw (bb l i) j) (bw (bb dW i) j)):cg P n0 st { st with env:=(t,.ro dW) :: st.env }:=YH t ak (fun ρ S w u h=>by
 cases h with
 | pure h=>exact .pure (YG hlen cw hw h))
end
end
section
set_option maxRecDepth 100000
attribute [local irreducible] cE a6 bu GStep Fn cg bf cA
def rS (f x:bo):Prop:=x.Kind=f.Kind/\x.Id=f.Id/\f.Kind≠27
noncomputable def kK:List bo->bo->Nat
 | [],_=>0
 | x :: r,f=>if yes (rS f x)=true then 0 else kK r f+1
theorem F7:∀ (l:List bo) (f:bo),kK l f<=l.length
 | [],_=>e4 _
 | x :: r,f=>by
  unfold kK;split
  ·simp
  ·have:=F7 r f;simp;omega
theorem Qo:∀ (l:List bo) (f:bo),kK l f<l.length->rS f (l.getD (kK l f) default)
 | [],_,h=>by simp[kK] at h
 | x :: r,f,h=>by
  unfold kK at h ⊢;split
  ·rename_i e;exact Ez.1 e
  ·rename_i e;rw[ah e] at h;have:=Qo r f (by simpa using h);simpa using this
theorem Qp:∀ (l:List bo) (f:bo) (k:Nat),k<kK l f -> ¬ rS f (l.getD k default)
 | [],_,k,h=>by simp[kK] at h
 | x :: r,f,k,h=>by
  unfold kK at h;split at h
  ·omega
  ·rename_i e
   cases k with
   | zero=>exact fun aw=>e (j6 (by simpa using aw))
   | succ k=>simpa using Qp r f k (by omega)
theorem LZ {l:List bo} (ag:k<l.length) (J:k<=kK l f) (aa:rS f (l.getD k default)):kK l f=k:=by
 rcases Nat.lt_or_ge k (kK l f) with h|h
 ·exact absurd aa (Qp l f k h)
 ·omega
theorem L1 {l:List bo} (ag:k<l.length) (J:k<=kK l f) (aa:¬ rS f (l.getD k default)):k+1<=kK l f:=by
 rcases Nat.lt_or_ge k (kK l f) with h|h
 ·exact h
 ·have e:kK l f=k:=by omega
  exact absurd (e ▸ Qo l f (by omega)) aa
noncomputable def fK (l:List bo) (f:bo):List bo×Int:=if kK l f<l.length then(l.set (kK l f) f,0) else if l.length=12 then(l,8) else(l++[f],0)
theorem Dz (l:List bo) (f:bo) (h:l.length<=12):(fK l f).1.length<=12:=by
 unfold fK;split
 ·rw[e1];exact h
 ·split
  ·exact h
  ·rw[eE,List.length_singleton];omega
theorem YI (l:List bo) (f:bo) (ao:∀ y,y ∈ l->dx y) (hf:dx f):∀ y,y ∈ (fK l f).1->dx y:=by
 intro y aj;unfold fK at aj;split at aj
 ·rcases vo aj with h|h
  ·exact ao y h
  ·exact h ▸ hf
 ·split at aj
  ·exact ao y aj
  ·rcases gr.1 aj with h|h
   ·exact ao y h
   ·rw[iX] at h;exact h ▸ hf
def fE (c:aG) (q:List bo):aG:={ c with Queue:=q }
theorem yr (c:aG) (f:bo) (ao:c.Queue.length<=12):Fn Tryz.prog 146 [.agg (cj c),.agg (aO f)] (.bN [.agg (cj (fE c (fK c.Queue f).1)),I (fK c.Queue f).2]):=by
 have hle:=F7 c.Queue f;have cR:∀ i,i<c.Queue.length->bb (c.Queue.map aO) i=aO (c.Queue.getD i default):=fun i hi=>gV aO hi
 generalize ap:fK c.Queue f=R;unfold fK at ap;generalize jU:cj (fE c R.1)=Z;unfold fE cj at jU;dsimp only at jU;subst jU;refine aH Tryz.func146 ?_;(repeat' first|refine eP (c.Queue.map aO) ?_|(refine ay ?_;(and_intros <;> intros))|fail);refine cv (fun k:Nat=>⟨[(2,.ptr 0 0 0 0),(3,.ptr 1 0 0 0),(4,.ptr 2 0 0 0),(6,.own 3),(13,.own 3),(14,I c.Queue.length),(15,I k)],[(0,some (.box 51 (cj c))),(1,some (.box 111 (aO f))),(2,some (.box 51 [ab false,I 0,aX,I 0,aX,aX,I 0,I 0,I 0,I 0,I 0,I 0,I 0,I 0,I 0,I 0,I 0,aX,ab false,aX,I 0,I 0,ab false,I 0])),(3,some (.row 111 7 (c.Queue.map aO)))],4,Tryz.f146.ntmps⟩)
  (fun k=>k<=kK c.Queue f) (fun k=>c.Queue.length - k) 0 (cm _) fP ?_
 intro k ag;by_cases au:k<c.Queue.length
 ·by_cases he:rS f (c.Queue.getD k default)
  ·have U:=LZ au ag he;rw[U,al au] at ap;subst ap;obtain ⟨aI,a7,cC⟩:=he;(refine L0 ?_;and_intros <;> intros)
   all_goals first|exact dA|skip
  ·have U:=L1 au ag he;unfold rS at he;(try refine ay ?_;and_intros <;> intros)
   all_goals first
    | (exact⟨k+1,(by omega),U,ba⟩)
    | (exfalso;omega)
    | skip
 ·have ca:k=c.Queue.length:=by omega
  rw[ah (by omega)] at ap;subst ca;by_cases lx:c.Queue.length=12
  ·rw[al lx] at ap;subst ap;(try refine ay ?_;and_intros <;> intros)
   all_goals first|exact dA|skip
  ·rw[ah lx] at ap;subst ap;(refine L2 ?_;and_intros <;> intros)
   all_goals first|exact dA|skip
theorem YJ (a:ee) (br:a.cO.length * 16<=140737488351232) (hb:a.cI.length * 16<=140737488351232):Fn Tryz.prog 75 [.agg (fc a),.agg (fc a)] (ab true):=by
 have J:=BH a.cO a.cO (by omega) (by omega);have aa:=BH a.cI a.cI (by omega) (by omega);have az:=zH a.Data a.Data;rw[j6 rfl] at J aa az;obtain ⟨data,f0,next,jy,lost,dO,hT,b8⟩:=a;dsimp only[fc] at *
 cases f0 <;> cases hT <;> cases b8
 all_goals refine aH Tryz.func75 ?_
 all_goals (refine pt J aa az ?_;and_intros <;> intros)
 all_goals first
  | exact bX (hr:=rfl)
  | skip
theorem zE (fz:kd s off n fin=0):mM s/\qU s off n fin:=by
 rcases xP s off n fin with⟨ai,e⟩ | ⟨_,h,c6,_⟩ | ⟨ai,bP,ar,e⟩
 ·omega
 ·exact⟨h,c6⟩
 ·omega
theorem V0 (s:ee) (off n:Int) (fin:Bool) (hw:bT.hg s) (ae:aE off) (hn:aE n):Fn Tryz.prog 261 [.agg (fc s),I off,I n,ab fin] (pv (lF s off n fin)):=by
 have J:=Qq s off n fin hw ae hn;have c4:=hw.2.2.2.1;have du:=hw.2.2.2.2.2.1;clear hw;unfold aE at ae hn;unfold lF pv;by_cases fz:kd s off n fin=0
 ·obtain ⟨bP,ar⟩:=zE fz;rw[fz] at J;rw[fz,ah (by decide)];obtain ⟨aL,aS,bi,cq⟩:=xt bP ar;clear fz bP ar;unfold Dt;by_cases hn0:0<n
  ·rw[al hn0,al hn0];have cq:=cq hn0;have az:=HT s.cO ⟨off,off+n - 1⟩ aL cq (by omega);have bk:=M7 s.cI ⟨off,off+n - 1⟩ aS cq (by omega);obtain ⟨data,f0,next,jy,lost,dO,hT,b8⟩:=s;dsimp only[fc,aB] at *;clear aL aS cq
   cases fin
   ·rw[Bool.not_false,Bool.and_true,Bool.or_false];refine aH Tryz.func261 ?_;(repeat' first|refine bh J ?_|refine bh az ?_|refine bh bk ?_|refine eP (dO.map aB) ?_|refine h0 ((dO++[aK.mk off (off+n - 1)]).map aB) ?_|(refine ay ?_;(and_intros <;> intros))|fail)
    all_goals first|exact fq|skip
   ·rw[Bool.not_true,Bool.and_false,Bool.or_true];refine aH Tryz.func261 ?_;(repeat' first|refine bh J ?_|refine bh az ?_|refine bh bk ?_|refine eP (dO.map aB) ?_|refine h0 ((dO++[aK.mk off (off+n - 1)]).map aB) ?_|(refine ay ?_;(and_intros <;> intros))|fail)
    all_goals first|exact fq|skip
  ·rw[ah hn0,ah hn0];clear cq;obtain ⟨data,f0,next,jy,lost,dO,hT,b8⟩:=s;dsimp only[fc,aB] at *;clear aL aS
   cases fin
   ·rw[Bool.not_false,Bool.and_true,Bool.or_false];refine aH Tryz.func261 ?_;(refine bH J ?_;and_intros <;> intros)
    all_goals first|exact fq|skip
   ·rw[Bool.not_true,Bool.and_false,Bool.or_true];refine aH Tryz.func261 ?_;(refine bH J ?_;and_intros <;> intros)
    all_goals first|exact fq|skip
 ·rw[al fz];generalize kd s off n fin=e at *;refine aH Tryz.func261 ?_;(refine bH J ?_;and_intros <;> intros)
  all_goals first|exact fq|skip
theorem Tg (s:ee) (off n:Int) (fin:Bool) (hw:hg s) (hu:s.cO.length * 16<=4294967296/\s.cI.length * 16<=4294967296) (ae:aE off) (hn:aE n):Fn Tryz.prog 232 [.agg (fc s),I off,I n,ab fin] (pv (mj s off n fin)):=by
 have J:=Qr s off n fin hw ae hn;have aa:=Ox s hw;have az:=fun r=>YK s.cI r hw.2.2.2.2.2.2 (by omega)
 obtain ⟨c4,du⟩:=hu;clear hw;unfold aE at ae hn;unfold mj pv;by_cases fz:kd s off n fin=0
 ·obtain ⟨bP,ar⟩:=zE fz;rw[fz,al rfl] at J;rw[fz,ah (by decide)];obtain ⟨aL,aS,bi,cq⟩:=xt bP ar;clear fz bP ar;unfold EA;by_cases hn0:0<n
  ·rw[al hn0];have cq:=cq hn0;have az:=az ⟨off,off+n - 1⟩;rw[YL aS cq] at az;obtain ⟨g1,g2⟩:=tI aS cq s.cI.length (e4 _);have g3:=fun x U=>(iC g1 x U).1
   generalize jb s.cI ⟨off,off+n - 1⟩ s.cI.length=H at *;obtain ⟨data,f0,next,jy,lost,dO,hT,b8⟩:=s;dsimp only[fc,aB] at *;clear aS cq g1;refine aH Tryz.func232 ?_;(refine pt J aa az ?_;and_intros <;> intros);refine cv (fun k:Nat=>⟨[(3,ab fin),(4,.ptr 0 0 0 0),(8,.ptr 1 0 0 0),(39,.ro (H.map aB)),(40,I H.length),(41,I k)],[(0,some (.box 132 [.ro (data.map bm),ab f0,I next,I jy,.ro (((H.take k).foldl hy lost).map aB),.ro (dO.map aB),ab hT,ab b8])),(1,some (.box 132 [aX,ab false,I 0,I 0,aX,aX,ab false,ab false]))],2,Tryz.f232.ntmps⟩)
    (fun k=>k<=H.length) (fun k=>H.length - k) 0 (cm _) dV ?_
   intro k ag;by_cases au:k<H.length
   ·have U:=g3 _ (cc au);obtain ⟨aI,_,cC⟩:=vn (H.take k) aL (fun x U=>g3 x (List.mem_of_mem_take U));have dC:=G3 ((H.take k).foldl hy lost) (H.getD k default) (wf_set aI) (by rw[kO] at cC;omega);rw[Qs aI U,<- YM au] at dC;dsimp only[aB] at dC;clear J aa az aI cC;(refine bH dC ?_;and_intros <;> intros)
    all_goals first|exact Bl|skip
   ·have ca:k=H.length:=by omega
    subst ca;rw[List.take_length];clear J aa az
    cases fin <;> cases hT
    all_goals (try refine ay ?_;and_intros <;> intros)
    all_goals first|exact fq|skip
  ·rw[ah hn0];clear az cq;obtain ⟨data,f0,next,jy,lost,dO,hT,b8⟩:=s;dsimp only[fc,aB] at *;clear aL aS
   cases fin <;> cases hT
   all_goals refine aH Tryz.func232 ?_
   all_goals (refine jJ J aa ?_;and_intros <;> intros)
   all_goals first|exact fq|skip
 ·rw[ah fz] at J;rw[al fz];clear aa az;generalize kd s off n fin=e at *;refine aH Tryz.func232 ?_;(refine bH J ?_;and_intros <;> intros)
  all_goals first|exact fq|skip
theorem VV (s:ee) (off n:Int) (fin:Bool) (hw:bT.hg s) (ae:aE off) (hn:aE n):Fn Tryz.prog 286 [.agg (fc s),I off,I n,ab fin] (pv (mj s off n fin)):=by
 have J:=Qq s off n fin hw ae hn;have c4:=hw.2.2.2.1;have du:=hw.2.2.2.2.2.1;clear hw;unfold aE at ae hn;unfold mj pv;by_cases fz:kd s off n fin=0
 ·obtain ⟨bP,ar⟩:=zE fz;rw[fz] at J;rw[fz,ah (by decide)];obtain ⟨aL,aS,bi,cq⟩:=xt bP ar;clear fz bP ar;unfold EA;by_cases hn0:0<n
  ·rw[al hn0];have cq:=cq hn0;obtain ⟨data,f0,next,jy,lost,dO,hT,b8⟩:=s;dsimp only[fc] at *;refine aH Tryz.func286 ?_;(refine bH J ?_;and_intros <;> intros);refine cv (fun k:Nat=>⟨[(3,ab fin),(4,.ptr 0 0 0 0),(8,.ptr 1 0 0 0),(11,.ro ((jb dO ⟨off,off+n - 1⟩ k).map aB)),(33,.ro (dO.map aB)),(34,I dO.length),(35,I k)],[(0,some (.box 132 [.ro (data.map bm),ab f0,I next,I jy,.ro (lost.map aB),.ro (dO.map aB),ab hT,ab b8])),(1,some (.box 132 [aX,ab false,I 0,I 0,aX,aX,ab false,ab false]))],2,Tryz.f286.ntmps⟩)
    (fun k=>k<=dO.length) (fun k=>dO.length - k) 0 (cm _) dV ?_
   intro k ag;by_cases au:k<dO.length
   ·obtain ⟨U,_⟩:=iC aS _ (cc au);obtain ⟨aI,a7⟩:=tI aS cq k ag;have dC:=HT (jb dO ⟨off,off+n - 1⟩ k) (dO.getD k default) aI U (by omega);rw[<- Dr au] at dC;dsimp only[aB] at dC;clear J aI a7;(refine bH dC ?_;and_intros <;> intros)
    all_goals first|exact Bl|skip
   ·have ca:k=dO.length:=by omega
    subst ca;obtain ⟨g1,g2⟩:=tI aS cq dO.length (e4 _);have g3:=fun x U=>(iC g1 x U).1
    obtain ⟨aI,a7,cC⟩:=vn (jb dO ⟨off,off+n - 1⟩ dO.length) aL g3
    have eG:=Qt (lost++jb dO ⟨off,off+n - 1⟩ dO.length) _ (fun x U=>by
     rcases gr.1 U with h|h
     ·exact(iC aL x h).1
     ·exact g3 x h) (by rw[eE];omega) aI a7
    generalize jb dO ⟨off,off+n - 1⟩ dO.length=H at *;generalize H.foldl hy lost=R at *;clear J aI a7 cC aS cq aL g1 g3
    cases fin
    ·rw[Bool.not_false,Bool.and_true];(repeat' first|refine bh eG ?_|refine eP (lost.map aB) ?_|refine h0 ((lost++H).map aB) ?_|(refine ay ?_;(and_intros <;> intros))|fail)
     all_goals first|exact fq|skip
    ·rw[Bool.not_true,Bool.and_false];(repeat' first|refine bh eG ?_|refine eP (lost.map aB) ?_|refine h0 ((lost++H).map aB) ?_|(refine ay ?_;(and_intros <;> intros))|fail)
     all_goals first|exact fq|skip
  ·rw[ah hn0];clear cq;obtain ⟨data,f0,next,jy,lost,dO,hT,b8⟩:=s;dsimp only[fc,aB] at *;clear aL aS
   cases fin
   ·rw[Bool.not_false,Bool.and_true];refine aH Tryz.func286 ?_;(refine bH J ?_;and_intros <;> intros)
    all_goals first|exact fq|skip
   ·rw[Bool.not_true,Bool.and_false];refine aH Tryz.func286 ?_;(refine bH J ?_;and_intros <;> intros)
    all_goals first|exact fq|skip
 ·rw[al fz];generalize kd s off n fin=e at *;refine aH Tryz.func286 ?_;(refine bH J ?_;and_intros <;> intros)
  all_goals first|exact fq|skip
theorem M8 (l:List bo) (hw:∀ y,y ∈ l->dx y) (ao:l.length * 88<=140737488351232):Fn Tryz.prog 239 [.ro (l.map aO)] (.ro (l.map aO)):=by
 refine aH Tryz.func239 ?_;(try refine ay ?_;and_intros <;> intros);refine cv (fun k:Nat=>⟨[(6,.ro (l.map aO)),(7,I l.length),(8,I k),(3,.own 0)],[(0,some (.row 111 7 ((l.take k).map aO)))],1,Tryz.f239.ntmps⟩)
  (fun k=>k<=l.length) (fun k=>l.length - k) 0 (cm _) ((iR (n:=0) (t:=3) 111 7 rfl rfl rfl).trans dV) ?_
 intro k ag;by_cases au:k<l.length
 ·have hf:=hw _ (cc au);have hr:=hf.2.2.2.2.1;have hd:=hf.2.2.2.2.2.2;(refine Jg ?_;and_intros <;> intros)
  all_goals (exact⟨k+1,(by omega),au,ba⟩)
 ·(try refine ay ?_;and_intros <;> intros)
  all_goals (refine bX (hr:=?_);rw[j9 (by omega)])
theorem T5 (s:ey) (hw:gM s) :
  cA Tryz.prog 127 [.agg (iB s)] [] 0 (.agg [I s.Next,.own 0,I s.c9,.own 1,.own 2]) [(0,some (.row 198 4 (s.aR.map bC))),(1,some (.row 146 2 (s.cD.map aB))),(2,some (.row 3 1 (s.bI.map encI)))] 3:=by
 have ao:=hw.2.1;have hU:=hw.2.2.2.2.1;have iZ:=hw.2.2.2.2.2.2.1;refine aH Tryz.func127 ?_;(try refine ay ?_;and_intros <;> intros);refine cv (fun k:Nat=>⟨[(1,.ptr 0 0 0 0),(2,.ptr 1 0 0 0),(7,.ro (s.aR.map bC)),(8,I s.aR.length),(9,I k),(3,.own 2)],[(0,some (.box 43 (iB s))),(1,some (.box 43 [I 0,aX,I 0,aX,aX])),(2,some (.row 198 4 ((s.aR.take k).map bC)))],3,Tryz.f127.ntmps⟩)
  (fun k=>k<=s.aR.length) (fun k=>s.aR.length - k) 0 (cm _) ((iR (n:=2) (t:=3) 198 4 rfl rfl rfl).trans dV) ?_
 intro k ag;by_cases au:k<s.aR.length
 ·have hf:=hw.2.2.1 _ (cc au);have J:=M8 (s.aR.getD k default).Frames hf.2.2.2.2 hf.2.2.2.1;(repeat' first|refine bh J ?_|refine eP ((s.aR.take (k+1)).map bC) ?_|(refine ay ?_;(and_intros <;> intros))|fail)
  all_goals (exact⟨k+1,(by omega),au,ba⟩)
 ·have ca:k=s.aR.length:=by omega
  subst ca;rw[List.take_length];(repeat' first|refine eP (s.cD.map aB) ?_|refine eP (s.bI.map encI) ?_|(refine ay ?_;(and_intros <;> intros))|fail)
  all_goals (exact qR)
def late (now rC:Int) (p:eN):Bool:=decide (rC<=now - p.Time)
def Qu (now rC:Int):Prop:=¬ (0<=now/\now<=1099511627776/\0<=rC/\rC<=1099511627776)
instance (now rC:Int):Decidable (Qu now rC):=inferInstanceAs (Decidable (¬ _))
noncomputable def ub (s:ey) (now rC:Int):ey×List eN×Int:=
 if lf s≠0 then(⟨0,[],0,[],[]⟩,[],lf s) else if Qu now rC then(⟨0,[],0,[],[]⟩,[],6)
 else(⟨s.Next,s.aR.filter (fun p=>!late now rC p),s.c9,s.cD,s.bI⟩,s.aR.filter (late now rC),0)
end
section
set_option maxRecDepth 100000
def sw (e:Int):bo:=⟨28,0,0,false,e,[],[]⟩
def kS (c:aG) (e:Int):aG:={ c with fj:=true,Code:=e,Queue:=[sw e],aq:=[],fT:=false }
def F8 (q:List bo) (f:bo):Prop:=∃ i,i<q.length/\(q.getD i default).Kind=f.Kind/\(q.getD i default).Id=f.Id
def mI (c:aG) (id:Int):cS:=c.aq.getD (b7 c.aq id) default
def uK (f:bo) (n:Int):bo:=⟨f.Kind,f.Id,n,f.Fin,f.Code,f.ec,f.Data⟩
def uJ (c:aG) (f:bo):bo:=if f.Kind=16 then uK f c.di.Max else if f.Kind=18 then uK f c.gR else if f.Kind=17 then uK f (mI c f.Id).In.bj else f
noncomputable def nl (c:aG) (f:bo):List bo×Int:=
 if yes (F8 c.Queue f)=true then(c.Queue,0)
 else if f.Kind=17/\(b7 c.aq f.Id=c.aq.length\/(mI c f.Id).Over=true) then(c.Queue,0)
 else fK c.Queue (uJ c f)
def s8 (k:Int):Prop:=k=4\/k=16\/k=17\/k=18\/k=6\/k=7\/k=30
instance (k:Int):Decidable (s8 k):=inferInstanceAs (Decidable (_\/_))
noncomputable def iV (c:aG) (f:bo):List cS×List bo×Int:=
  if f.Kind=8 then
    (if b7 c.aq f.Id<c.aq.length then
      (if (mj (mI c f.Id).Out f.aP f.Data.length f.Fin).2=0 then(c.aq.set (b7 c.aq f.Id) { mI c f.Id with Out:=(mj (mI c f.Id).Out f.aP f.Data.length f.Fin).1 },c.Queue,0) else(c.aq,c.Queue,(mj (mI c f.Id).Out f.aP f.Data.length f.Fin).2))
     else(c.aq,c.Queue,0))
  else if s8 f.Kind then(c.aq,(nl c f).1,(nl c f).2)
  else(c.aq,c.Queue,0)
def ml (c:aG) (l:List cS) (q:List bo):aG:={ c with aq:=l,Queue:=q }
def kL (c:aG) (p:gA):aG:={ c with cy:=p }
noncomputable def j7 (c:aG):List bo->aG×Int
 | []=>(c,0)
 | f :: l=>if (iV c f).2.2=0 then j7 (ml c (iV c f).1 (iV c f).2.1) l else(c,(iV c f).2.2)
def rT (c:aG) (p:eN) (now:Int):gA:=(qd c.cy (min p.hG c.cy.c0) p.Time now).1
noncomputable def jN (now:Int) (c:aG):List eN->aG×Int
 | []=>(c,0)
 | p :: l=>if (j7 (kL c (rT c p now)) p.Frames).2=0 then jN now (j7 (kL c (rT c p now)) p.Frames).1 l else j7 (kL c (rT c p now)) p.Frames
def iy (c:aG) (s:ey):aG:={ c with aQ:=s }
noncomputable def acp (c:aG) (now:Int):aG×Int:=
 if nj c=0 then(if 0<=now/\now<=1099511627776 then(if c.fj=true then(c,0)
  else if 60<=now - c.dT then(fE (kS c 16) [],0)
  else if (jN now (iy c (ub c.aQ now 8).1) (ub c.aQ now 8).2.1).2=0 then((jN now (iy c (ub c.aQ now 8).1) (ub c.aQ now 8).2.1).1,0)
  else(kS (jN now (iy c (ub c.aQ now 8).1) (ub c.aQ now 8).2.1).1 (jN now (iy c (ub c.aQ now 8).1) (ub c.aQ now 8).2.1).2,0)) else(default,6)) else(default,9)
theorem zF:∀ {l:List aK} {a m:Int},eD a l->(∀ x ∈ l,x.bz<m)->a<m->2 * (l.length:Int)<=m - a
 | [],a,m,_,_,br=>by simp;omega
 | r :: l,a,m,h,hm,br=>by
  have J:=hm r fV;have av:=h.1;unfold b9 at av;have:=zF (a:=r.bz) h.2.2 (fun x U=>hm x (ha _ U)) J;have aa:=h.2.1;rw[eb];omega
def mh (l:List cS):Prop:=∀ y ∈ l,W.jK y
theorem Gc (hw:bT.hg s) (ai:(mj s off n fin).2=0):bT.hg (mj s off n fin).1:=by
 unfold mj at *;by_cases fz:kd s off n fin=0
 ·obtain ⟨bP,ar⟩:=zE fz;obtain ⟨aL,aS,bi,cq⟩:=xt bP ar;rw[ah (by omega)];obtain ⟨c4,du,w3,e9,fa,gy,hL⟩:=hw;unfold EA;refine ⟨c4,du,w3,?_,?_,gy,hL⟩
  ·dsimp only;by_cases hn0:0<n
   ·rw[al hn0];obtain ⟨g1,g2⟩:=tI aS (cq hn0) s.cI.length (e4 _);obtain ⟨_,_,az⟩:=vn (jb s.cI ⟨off,off+n - 1⟩ s.cI.length) aL (fun x U=>(iC g1 x U).1);have hh:=bP.1.1.1;unfold oh at hh;have f1:=zF aL ((rp aL).1 bP.1.1.2) (by omega);have f2:=zF aS ((rp aS).1 bP.1.2) (by omega);omega
   ·rw[ah hn0];exact e9
  ·dsimp only;by_cases hn0:0<n
   ·rw[al hn0];obtain ⟨g1,g2⟩:=tI aS (cq hn0) s.cI.length (e4 _);obtain ⟨J,_,az⟩:=vn (jb s.cI ⟨off,off+n - 1⟩ s.cI.length) aL (fun x U=>(iC g1 x U).1);intro y aj;have av:=(iC J y aj).1;unfold b9 at av;unfold bT.fB aE;omega
   ·rw[ah hn0];exact fa
 ·rw[al fz] at ai;exact absurd ai fz
end
section
set_option maxRecDepth 100000
attribute [local irreducible] cE a6 bu GStep Fn cg bf cA
theorem vF {l:List eN} (h:k<l.length) (hq:q (l.getD k default)=true):(l.take (k+1)).filter q=(l.take k).filter q++[l.getD k default]:=by
 rw[mN h,List.filter_append,show List.filter q [l.getD k default]=[l.getD k default] by simp only[List.filter,hq]]
theorem sM {l:List eN} (h:k<l.length) (hq:q (l.getD k default)=false):(l.take (k+1)).filter q=(l.take k).filter q:=by
 rw[mN h,List.filter_append,show List.filter q [l.getD k default]=[] by simp only[List.filter,hq],lV]
theorem vE (l:List eN) (k:Nat) (q:eN->Bool):((l.take k).filter q).length<=l.length:=by
 have:=oA q (l.take k);rw[kO] at this;omega
def o8 (n:Int) (r:aK):Bool:=decide (r.bE<=n) && decide (n<=r.bz)
def eQ (l:List aK) (n:Int):Bool:=l.any (o8 n)
theorem P5 {l:List aK} {q:aK->Bool} (h:k<l.length):(l.take (k+1)).any q=((l.take k).any q || q (l.getD k default)):=by
 rw[mN h,List.any_append];simp only[List.any_cons,List.any_nil,Bool.or_false]
theorem P6 {l:List aK} {q:aK->Bool} (h:k<l.length) (hq:q (l.getD k default)=true):l.any q=true:=List.any_eq_true.2 ⟨_,cc h,hq⟩
theorem M5 (l:List aK) (n:Int) (ao:l.length * 16<=140737488351232) :
  cA Tryz.prog 289 [I n,.ptr 0 0 0 0] [(0,some (.box 40 [.ro (l.map aB)]))] 1 (ab (eQ l n)) [(0,some (.box 40 [.ro (l.map aB)]))] 1:=by
 refine aH Tryz.func289 ?_;(try refine ay ?_;and_intros <;> intros);refine cv (fun k:Nat=>⟨[(0,I n),(6,.ro (l.map aB)),(7,I l.length),(8,I k)],[(0,some (.box 40 [.ro (l.map aB)]))],1,Tryz.f289.ntmps⟩)
  (fun k=>k<=l.length/\(l.take k).any (o8 n)=false) (fun k=>l.length - k) 0 ⟨cm _,rfl⟩ dV ?_
 rintro k ⟨ag,br⟩;by_cases au:k<l.length
 ·have aw:=P5 (q:=o8 n) au;rw[br,Bool.false_or] at aw;by_cases c:(l.getD k default).bE<=n/\n<=(l.getD k default).bz
  ·have hq:o8 n (l.getD k default)=true:=by unfold o8;rw[fM,decide_eq_true_eq,decide_eq_true_eq];exact c
   rw[show eQ l n=true from P6 au hq];(try refine ay ?_;and_intros <;> intros)
   all_goals (exact qR)
  ·have hq:o8 n (l.getD k default)=false:=by unfold o8;rw[Bool.and_eq_false_iff,decide_eq_false_iff_not,decide_eq_false_iff_not];omega
   (try refine ay ?_;and_intros <;> intros)
   all_goals (exact⟨k+1,(by omega),(by exact⟨au,by rw[aw];exact hq⟩),ba⟩)
 ·rw[show l.take k=l from j9 (by omega)] at br;rw[show eQ l n=false from br];(try refine ay ?_;and_intros <;> intros)
  all_goals (exact qR)
theorem YN (l:List aK) (p:eN) (ao:l.length * 16<=140737488351232) :
  cA Tryz.prog 290 [.agg (bC p),.ptr 1 0 0 0] [(0,some (.box 40 [.ro (l.map aB)])),(1,some (.box 338 [.fs 289 [.ptr 0 0 0 0]]))] 2 (ab (eQ l p.Number)) [(0,some (.box 40 [.ro (l.map aB)])),(1,some (.box 338 [.fs 289 [.ptr 0 0 0 0]]))] 2:=by
 have J:=M5 l p.Number ao;refine aH Tryz.func290 ?_;(repeat' first|refine oQ [0] (J) (h:=?_)|(refine ay ?_;(and_intros <;> intros))|fail)
 all_goals (exact qR)
theorem YO (top:Int) (p:eN) (J : -1<=top) (aa:top<=4611686018427387903) :
  cA Tryz.prog 291 [.agg (bC p),.ptr 0 0 0 0] [(0,some (.box 3 [I top]))] 1 (ab (decide (p.Number<=top - 3))) [(0,some (.box 3 [I top]))] 1:=by
 refine aH Tryz.func291 ?_;(try refine ay ?_;and_intros <;> intros)
 all_goals (exact qR)
theorem T6 (r:List aK) (l:List eN) (ao:l.length<=24) (hr:r.length * 16<=140737488351232) :
  cA Tryz.prog 229 [.own 2,.fs 290 [.ptr 1 0 0 0]] [(0,some (.box 40 [.ro (r.map aB)])),(1,some (.box 338 [.fs 289 [.ptr 0 0 0 0]])),(2,some (.row 198 4 (l.map bC)))] 3
   (.bN [.ro ((l.filter (fun p=>eQ r p.Number)).map bC),.ro ((l.filter (fun p=>!eQ r p.Number)).map bC)]) [(0,some (.box 40 [.ro (r.map aB)])),(1,some (.box 338 [.fs 289 [.ptr 0 0 0 0]]))] 3:=by
 refine aH Tryz.func229 ?_;(try refine ay ?_;and_intros <;> intros);refine cv (fun k:Nat=>⟨[(1,.fs 290 [.ptr 1 0 0 0]),(8,.own 2),(9,I l.length),(10,I k),(4,.own 3),(5,.own 4)],[(0,some (.box 40 [.ro (r.map aB)])),(1,some (.box 338 [.fs 289 [.ptr 0 0 0 0]])),(2,some (.row 198 4 (l.map bC))),(3,some (.row 198 4 (((l.take k).filter (fun p=>eQ r p.Number)).map bC))),(4,some (.row 198 4 (((l.take k).filter (fun p=>!eQ r p.Number)).map bC)))],5,Tryz.f229.ntmps⟩)
  (fun k=>k<=l.length) (fun k=>l.length - k) 0 (cm _) ((iR (n:=3) (t:=4) 198 4 rfl rfl rfl).trans ((iR (n:=4) (t:=5) 198 4 rfl rfl rfl).trans dV)) ?_
 intro k ag;have nN:=vE l k (fun p=>eQ r p.Number);have k3:=vE l k (fun p=>!eQ r p.Number);by_cases au:k<l.length
 ·have hc:=YN r (l.getD k default) hr
  cases hq:eQ r (l.getD k default).Number
  ·rw[hq] at hc;have aI:=congrArg (List.map bC) (sM (q:=fun p=>eQ r p.Number) au hq).symm;have a7:=vF (q:=fun p=>!eQ r p.Number) au (by rw[hq];rfl);(repeat' first|refine oQ [0,1] (hc) (h:=?_)|(refine kI (r:=((l.take (k+1)).filter (fun p=>!eQ r p.Number)).map bC) ?_ ?_ ?_ ?_ (h:=?_);(exact pV);(exact dm);(exact dp);(exact dq))|(refine k9 (r:=((l.take (k+1)).filter (fun p=>!eQ r p.Number)).map bC) ?_ ?_ ?_ ?_ (h:=?_);(exact pV);(exact dm);(exact dp);(exact dq))|(refine la (r:=((l.take (k+1)).filter (fun p=>!eQ r p.Number)).map bC) ?_ ?_ ?_ ?_ (h:=?_);(exact pV);(exact dm);(exact dp);(exact dq))|(refine kl (r:=((l.take (k+1)).filter (fun p=>!eQ r p.Number)).map bC) ?_ ?_ ?_ ?_ (h:=?_);(exact pV);(exact dm);(exact dp);(exact dq))|(refine ay ?_;(and_intros <;> intros))|fail)
   all_goals (exact⟨k+1,(by omega),au,ba⟩)
  ·rw[hq] at hc;have aI:=vF (q:=fun p=>eQ r p.Number) au hq;have a7:=congrArg (List.map bC) (sM (q:=fun p=>!eQ r p.Number) au (by rw[hq];rfl)).symm;(repeat' first|refine oQ [0,1] (hc) (h:=?_)|(refine kI (r:=((l.take (k+1)).filter (fun p=>eQ r p.Number)).map bC) ?_ ?_ ?_ ?_ (h:=?_);(exact pW);(exact dm);(exact dp);(exact dq))|(refine k9 (r:=((l.take (k+1)).filter (fun p=>eQ r p.Number)).map bC) ?_ ?_ ?_ ?_ (h:=?_);(exact pW);(exact dm);(exact dp);(exact dq))|(refine la (r:=((l.take (k+1)).filter (fun p=>eQ r p.Number)).map bC) ?_ ?_ ?_ ?_ (h:=?_);(exact pW);(exact dm);(exact dp);(exact dq))|(refine kl (r:=((l.take (k+1)).filter (fun p=>eQ r p.Number)).map bC) ?_ ?_ ?_ ?_ (h:=?_);(exact pW);(exact dm);(exact dp);(exact dq))|(refine ay ?_;(and_intros <;> intros))|fail)
   all_goals (exact⟨k+1,(by omega),au,ba⟩)
 ·(try refine ay ?_;and_intros <;> intros);rw[show l.take k=l from j9 (by omega)]
  all_goals (exact qR)
theorem T7 (top:Int) (l:List eN) (ao:l.length<=24) (J : -1<=top) (aa:top<=4611686018427387903) :
  cA Tryz.prog 229 [.ro (l.map bC),.fs 291 [.ptr 0 0 0 0]] [(0,some (.box 3 [I top]))] 1
   (.bN [.ro ((l.filter (fun p=>decide (p.Number<=top - 3))).map bC),.ro ((l.filter (fun p=>!decide (p.Number<=top - 3))).map bC)]) [(0,some (.box 3 [I top]))] 1:=by
 refine aH Tryz.func229 ?_;(try refine ay ?_;and_intros <;> intros);refine cv (fun k:Nat=>⟨[(1,.fs 291 [.ptr 0 0 0 0]),(8,.ro (l.map bC)),(9,I l.length),(10,I k),(4,.own 1),(5,.own 2)],[(0,some (.box 3 [I top])),(1,some (.row 198 4 (((l.take k).filter (fun p=>decide (p.Number<=top - 3))).map bC))),(2,some (.row 198 4 (((l.take k).filter (fun p=>!decide (p.Number<=top - 3))).map bC)))],3,Tryz.f229.ntmps⟩)
  (fun k=>k<=l.length) (fun k=>l.length - k) 0 (cm _) ((iR (n:=1) (t:=4) 198 4 rfl rfl rfl).trans ((iR (n:=2) (t:=5) 198 4 rfl rfl rfl).trans dV)) ?_
 intro k ag;have nN:=vE l k (fun p=>decide (p.Number<=top - 3));have k3:=vE l k (fun p=>!decide (p.Number<=top - 3));by_cases au:k<l.length
 ·have hc:=YO top (l.getD k default) J aa
  cases hq:decide ((l.getD k default).Number<=top - 3)
  ·rw[hq] at hc;have aI:=congrArg (List.map bC) (sM (q:=fun p=>decide (p.Number<=top - 3)) au hq).symm;have a7:=vF (q:=fun p=>!decide (p.Number<=top - 3)) au (by rw[hq];rfl);(repeat' first|refine oQ [0] (hc) (h:=?_)|(refine kI (r:=((l.take (k+1)).filter (fun p=>!decide (p.Number<=top - 3))).map bC) ?_ ?_ ?_ ?_ (h:=?_);(exact pV);(exact dm);(exact dp);(exact dq))|(refine k9 (r:=((l.take (k+1)).filter (fun p=>!decide (p.Number<=top - 3))).map bC) ?_ ?_ ?_ ?_ (h:=?_);(exact pV);(exact dm);(exact dp);(exact dq))|(refine la (r:=((l.take (k+1)).filter (fun p=>!decide (p.Number<=top - 3))).map bC) ?_ ?_ ?_ ?_ (h:=?_);(exact pV);(exact dm);(exact dp);(exact dq))|(refine kl (r:=((l.take (k+1)).filter (fun p=>!decide (p.Number<=top - 3))).map bC) ?_ ?_ ?_ ?_ (h:=?_);(exact pV);(exact dm);(exact dp);(exact dq))|(refine ay ?_;(and_intros <;> intros))|fail)
   all_goals (exact⟨k+1,(by omega),au,ba⟩)
  ·rw[hq] at hc;have aI:=vF (q:=fun p=>decide (p.Number<=top - 3)) au hq;have a7:=congrArg (List.map bC) (sM (q:=fun p=>!decide (p.Number<=top - 3)) au (by rw[hq];rfl)).symm;(repeat' first|refine oQ [0] (hc) (h:=?_)|(refine kI (r:=((l.take (k+1)).filter (fun p=>decide (p.Number<=top - 3))).map bC) ?_ ?_ ?_ ?_ (h:=?_);(exact pW);(exact dm);(exact dp);(exact dq))|(refine k9 (r:=((l.take (k+1)).filter (fun p=>decide (p.Number<=top - 3))).map bC) ?_ ?_ ?_ ?_ (h:=?_);(exact pW);(exact dm);(exact dp);(exact dq))|(refine la (r:=((l.take (k+1)).filter (fun p=>decide (p.Number<=top - 3))).map bC) ?_ ?_ ?_ ?_ (h:=?_);(exact pW);(exact dm);(exact dp);(exact dq))|(refine kl (r:=((l.take (k+1)).filter (fun p=>decide (p.Number<=top - 3))).map bC) ?_ ?_ ?_ ?_ (h:=?_);(exact pW);(exact dm);(exact dp);(exact dq))|(refine ay ?_;(and_intros <;> intros))|fail)
   all_goals (exact⟨k+1,(by omega),au,ba⟩)
 ·(try refine ay ?_;and_intros <;> intros);rw[show l.take k=l from j9 (by omega)]
  all_goals (exact qR)
end
end Go.Proofs.YtendheafcbickaaGreat
