
import Derived.Test.YtendheafcbickaaGreatCAbsC
import Derived.Maps.RangeRun
set_option linter.unusedVariables false
set_option linter.unusedSimpArgs false
namespace Go.Proofs.YtendheafcbickaaGreat
variable {T d et id:Nat} {cQ:Option (Value×Value)} {es left:List (Value×Value)} {k v:Value} {m x:Operand} {pK:Value×Value} {q:Option IntKind}
open Go.RowKit Go.ChangeMaps
section
variable {P:Program} {o:Oper} {n0:Nat} {st:aW} {G:List Nat}
theorem UB (hh:aM st.heap id=some (.map q es)):cg P n0 st { st with heap:=(id,some (.gF q es)) :: st.heap }:=fun F base w0 ρ a w hH ax=>by
 obtain ⟨b,b3,clock,J,aa,az,bk,dG,h9⟩:=hH.cJ _ _ hh
 have hS:∀ b,bs F ρ st.heap b->bs F ρ ((id,some (.gF q es)) :: st.heap) b:=fun b h=>⟨h.1,fun j B u an ae hu=>by
  rw[cl] at an;split at an
  ·injection an with an;subst an;cases ae
  ·exact h.2 j B u an ae hu⟩
 have Hv:bs F ρ ((id,some (.gF q es)) :: st.heap) b:=by
  have oE:=hH.owned hh rfl J (b:=b) rfl;refine ⟨hH.dX b oE.1,fun j B u an ae hu Hw=>?_⟩;rw[cl] at an;split at an
  ·injection an with an;subst an;cases ae
  ·rename_i jV;exact jV (hH.inj id j _ B _ u b hh an rfl ae J hu rfl Hw)
 refine ⟨ρ,⟨⟨hH.below,hH.fl,hH.sup,fun i j B bd u dD b an b0 ae dK hu c2 hb cG=>?_,fun j B an=>?_⟩,hH.dX⟩,ax.mono (dl.refl _ _) (fun b h _=>hS b h) (fun _ _ h=>h),fun _ _=>rfl⟩
 ·rw[cl] at an b0;split at an
  ·injection an with an;subst an;cases ae
  ·split at b0
   ·injection b0 with b0;subst b0;cases dK
   ·exact hH.inj i j B bd u dD b an b0 ae dK hu c2 hb cG
 ·rw[cl] at an;split at an
  ·rename_i e;subst e;injection an with an;subst an;exact⟨b,b3,clock,J,Hv,az,bk,dG,h9⟩
  ·exact(hH.cJ j B an).mono (dl.refl _ _) (fun b h _=>hS b h) (fun _ _ h=>h) (fun _ _ _ _ _ _=>rfl)
theorem Tu {T kt et id:TypeId} {z:Value} {ok:Bool} (ae:o.op = .lookup T m x ok) (hm:aJ st.env m=some (.own id)) (hh:aM st.heap id=some (.gF q es)) (U:aJ st.env x=some (.lit k)) (aY:P.underlying T=some (.map kt et)) (mr:P.underlying kt=some (pJ q)) (ag:iA q k=true) (aU:wM P et=some z) :
  bu P G o st (if ok then .bN [.lit ((fU k es).getD z),ab (fU k es).isSome] else .lit ((fU k es).getD z)):=fun F base w0 ρ a w hH ax cw=>by
 have J:=j8 (df ax hm);obtain ⟨b,b3,clock,aI,a7,cC,eI,fZ,_⟩:=hH.cJ _ _ hh;obtain ⟨w8,z3⟩:=Nn aU;have hr:∀ aF,Ext (u5 ρ G) w aF -> (Instr.lookup T (a.eval m) (a.eval x) ok).run P aF = .ok (if ok then .tuple #[(fU k es).getD z,.bool (fU k es).isSome] else(fU k es).getD z) aF:=fun aF jo=>by
  have y1:aF.heap[b]? = some (.map b3 clock):=by
   rw[jo.block b (gB.1 cC).1 (Hx cw a7)];exact cC
  rw[J] at aI;injection aI with aI;rw[aI,fO (df ax U)];have:=No (P:=P) (ok:=ok) aY mr y1 ag (fun e he=>(fZ (lj e) CW).1) (z3 aF);rw[eI] at this;exact this
 have y2:((fU k es).getD z).oneCell' = true:=by
  cases hc:fU k es with
  | none=>exact w8
  | some x=>exact Hy fZ hc
 refine ⟨if ok then .tuple #[(fU k es).getD z,.bool (fU k es).isSome] else(fU k es).getD z,?_,fun aF jo=>?_⟩
 ·cases ok
  ·exact .pure (.lit _ y2)
  ·refine .bN rfl (fun j ad=>?_)
   match j,ad with
   | 0,_=>exact .pure (.lit _ y2)
   | 1,_=>exact .pure (.lit _ rfl)
 ·unfold execOp;rw[ae];simp only[Sem.run_bind,hr aF jo];rfl
theorem UC (h:iA q v=true):v.oneCell' = true:=by
 rcases sf h with⟨k,a,_,rfl⟩ | ⟨s,_,rfl⟩ <;> rfl
theorem UD (b3:Array MapEntry):leftOf b3 #[]=b3:=by unfold leftOf;simp
theorem UE {k kt:Nat} (ae:o.op = .range T x) (U:aJ st.env x=some (.own id)) (hh:aM st.heap id=some (.gF q es)) (aY:P.underlying T=some (.map kt et)) (hd:o.dst=some d) (aN:Nat.blt d st.af=true) :
  kU P k o st (st.newAt k d (.own k) (.iter es none)):=fun F base w0 ρ a w hH ax fY ag=>by
 have J:=j8 (df ax U);obtain ⟨b,b3,clock,aI,a7,cC,eI,fZ,CX⟩:=hH.cJ _ _ hh;rw[J] at aI;injection aI with aI;have bW:=(gB.1 cC).1;refine l5 (u:=.pointer (some ⟨w.heap.size,0,none⟩)) (aF:=w.alloc (.mapIter (some b) clock #[] clock)) ?_ ?_
 ·unfold execOp;rw[ae];simp only[Sem.run_bind,aI,run_range_map w T kt et b b3 clock aY cC];rfl
 ·rw[hd];refine u6 hH ax fY ag (tv _ _) (fun _ b hb=>by simp only[dU,ck] at hb;omega) (bM aN) rfl (fun S hS _ dc=>?_) (fun S=>.own (gO _ _ _));refine ⟨w.heap.size,b,b3,clock,clock,#[],clock,gO _ _ _,hH.fl _ (e4 _),heap_alloc_new _ _,hS b a7 bW,by rw[dc b a7 bW];exact cC,CX,CX.2,e4 _,e4 _,by rw[UD];exact eI,fun e he=>?_,fun pK h=>by cases h⟩;have:=fZ (lj e) CW;exact⟨UC this.1,this.2⟩
theorem Np:∀ {l:List MapEntry} (i:Nat) (hi:i<l.length),(l.map (·.born)).Nodup->l.filter (fun x=>!(x.born == l[i].born))=l.eraseIdx i
 | [],i,hi,_=>by simp at hi
 | e :: l,0,_,h=>by
  simp only[iM,List.nodup_cons] at h;simp only[List.getElem_cons_zero,List.filter_cons,beq_self_eq_true,Bool.not_true,Bool.false_eq_true,if_false,List.eraseIdx_zero,List.tail_cons];rw[List.filter_eq_self];intro x U;have:x.born≠e.born:=fun hb=>h.1 (List.mem_map.2 ⟨x,U,hb⟩)
  simpa using this
 | e :: l,i+1,hi,h=>by
  simp only[iM,List.nodup_cons] at h;have oC:i<l.length:=by simpa using hi
  have ct:e.born≠l[i].born:=fun hb=>h.1 (List.mem_map.2 ⟨l[i],List.getElem_mem oC,hb.symm⟩)
  have bU:=Np i oC h.2;simp only[List.getElem_cons_succ,List.filter_cons,List.eraseIdx_cons_succ];rw[al (by simpa using ct),bU]
theorem UF {b3:Array MapEntry} {seen:Array Nat} {clock:Nat} (hb:w9 b3 clock) {i:Nat} (hi:i<(leftOf b3 seen).toList.length):(leftOf b3 (seen.push (leftOf b3 seen).toList[i].born)).toList=(leftOf b3 seen).toList.eraseIdx i:=by
 have hn:((leftOf b3 seen).toList.map (·.born)).Nodup:=by
  unfold leftOf;rw[Array.toList_filter];exact(hb.1.sublist (List.Sublist.map _ List.filter_sublist))
 rw[<- Np i hi hn];generalize (leftOf b3 seen).toList[i]=e;unfold leftOf;rw[Array.toList_filter,Array.toList_filter,List.filter_filter];congr 1;funext x;simp[Array.contains_push,Bool.and_comm];by_cases U:x.born=e.born <;> simp[U]
theorem BX {α β:Type} (f:α->β):∀ (l:List α) (i:Nat),(l.eraseIdx i).map f=(l.map f).eraseIdx i
 | [],_=>rfl
 | a :: l,0=>rfl
 | a :: l,i+1=>by simp only[List.eraseIdx_cons_succ,iM,BX f l i]
def Nq (P:Program) (n0:Nat) (o:Oper) (st:aW) (S:aW->Prop):Prop:=
 ∀ F base w0 ρ a w,eA F base ρ st.heap st.next w0 w->e0 ρ (bs F ρ st.heap) w st.af st.env a->o.wp P a w (fun hx aF=>∃ bq,S bq /\ Next n0 F base w0 ρ w bq hx aF) (fun _ _ _=>False)
theorem UG {ops:List Oper} {rest:List Oper} {S:aW->Prop} {Q:aW->Prop} (av:b1 st.env ops o.guard=some true) (aw:Nq P n0 o st S) (h:∀ bq,S bq -> a6 P n0 ops.toArray rest bq Q):a6 P n0 ops.toArray (o :: rest) st Q:=
 fun F base w0 ρ a w hH ax=>wpList_step fun K l6=>by
  rw[al (qz ax av)];refine CY (fun hx aF c6=>?_) (fun e a w h=>h.elim) (aw F base w0 ρ a w hH ax);obtain ⟨bq,lk,bl,J,aa,az,bk⟩:=c6;refine l6 _ _ ?_;have:=h bq lk F base w0 bl hx aF J aa;exact u7 (fun e a w ar=>kV.trans bk ar) _ _ _ this
theorem UH (ae:o.op = .next x false) (hd:o.dst=some d) (aN:Nat.blt d st.af=true) (U:aJ st.env x=some (.own id)) (hh:aM st.heap id=some (.iter left cQ)) :
  Nq P n0 o st (fun bq=>(left=[]/\bq = { st with env:=(d,.bN [ab false]) :: st.env }) \/
   ∃ i,∃ h:i<left.length,bq = { st with env:=(d,.bN [ab true,.lit left[i].1,.lit left[i].2]) :: st.env,heap:=(id,some (.iter (left.eraseIdx i) (some left[i]))) :: st.heap }):=fun F base w0 ρ a w hH ax=>by
 have J:=j8 (df ax U);obtain ⟨r,b,b3,clock,since,seen,dz,aI,a7,cC,eI,fZ,hb,hold,Nr,u9,y3,lH,_⟩:=hH.cJ _ _ hh;rw[J] at aI;injection aI with aI;have l3:¬ bs F ρ st.heap r:=fun aw=>aw.2 id _ _ hh rfl (by rw[J,aI]) rfl
 rcases run_next_at (P:=P) w o.type r b since dz seen b3 clock cC fZ hold Nr with⟨ai,jB⟩ | ⟨e,he,c4,CZ,jB⟩
 ·refine l5 (u:=.tuple #[.bool false]) (aF:=w) ?_ ?_
  ·unfold execOp;rw[ae];simp only[];rw[aI];simp only[Sem.run_bind,jB];rfl
  ·rw[hd];refine ⟨_,.inl ⟨?_,rfl⟩,ρ,hH,ax.put (bM aN) (.bN rfl (fun j ad=>?_)),fun _ _ h=>h,fun _ _=>rfl⟩
   ·rw[<- y3,List.map_eq_nil_iff];exact pj (by simpa using ai)
   ·simp only[eb,fg] at ad;rcases (show j=0 by omega) with rfl;exact .pure (.lit _ rfl)
 ·obtain ⟨i,hi,rfl⟩:=List.getElem_of_mem he;have jL:i<left.length:=by rw[<- y3,bY];exact hi
  have Ns:left[i]=lj (leftOf b3 seen).toList[i]:=by subst y3;simp
  have y4:(leftOf b3 seen).toList[i] ∈ b3.toList:=by
   have im:∀ x ∈ (leftOf b3 seen).toList,x ∈ b3.toList:=fun x U=>by
    unfold leftOf at U;rw[Array.toList_filter] at U;exact(List.mem_filter.1 U).1
   exact im _ he
  have UI:=UF (seen:=seen) hb hi;generalize qA:(leftOf b3 seen).toList[i]=e at *;refine l5 (u:=.tuple #[.bool true,e.key,e.val]) (aF:=setBlock c4 r (.mapIter (some b) since (seen.push e.born) clock)) ?_ ?_
  ·unfold execOp;rw[ae];simp only[];rw[aI];simp only[Sem.run_bind,jB];rfl
  ·rw[hd];have xa:c4.heap=w.heap:=by rcases CZ with rfl|rfl <;> rfl
   have y1:c4.heap[r]? = some (.mapIter (some b) since seen dz):=by rw[xa];exact cC
   have av:w.grownBy (setBlock c4 r (.mapIter (some b) since (seen.push e.born) clock)) (some r):=by
    refine ⟨by rcases CZ with rfl|rfl <;> rfl,by rcases CZ with rfl|rfl <;> rfl,by rcases CZ with rfl|rfl <;> rfl,by simp[setBlock,xa],fun i _ hi=>?_⟩;rw[UJ c4 r _ (fun e=>hi (by rw[e])),xa]
   obtain ⟨aL,aS,bi⟩:=hH.step (bl:=ρ) (cB:=(id,some (.iter (left.eraseIdx i) (some left[i]))) :: st.heap) (next':=st.next) id (some r) av
    (fun k ag=>by injection ag with ag;subst ag;exact⟨a7,l3⟩) (fun _ _ h=>h) (fun id u h=>hH.sup id u h)
    (fun i B ct an=>by
     rw[cl,ah (Ne.symm ct)] at an;refine ⟨an,?_⟩;obtain ⟨u,hu⟩:=hH.nd an
     exact⟨u,hu,fun ae fD hb e=>by injection e with e;subst e;exact ct (hH.inj i id B _ u _ r an hh ae rfl hu (by rw[J,aI]) hb rfl)⟩)
    (fun B u fD an ae hu hb=>by
     rw[J,aI] at hu;injection hu with hu;subst hu;simp only[dU,ck] at hb;subst hb;refine .inr ⟨l3,fun i bd dD ct b0 dK c2 cG=>?_⟩;rw[cl,ah (Ne.symm ct)] at b0
     exact ct (hH.inj i id bd _ dD _ r b0 hh dK rfl c2 (by rw[J,aI]) cG rfl))
    (fun B an hS dc=>by
     rw[cl,al rfl] at an;injection an with an;subst an;have bW:=(gB.1 fZ).1;refine ⟨r,b,b3,clock,since,seen.push e.born,clock,by rw[J,aI],a7,UK y1 _,hS b eI bW,by rw[dc b eI bW];exact fZ,hb,hold,u9,u9,?_,lH,fun pK Hz=>⟨rfl,seen,e,rfl,y4,?_⟩⟩
     ·rw[UI,<- y3];exact BX lj _ i
     ·injection Hz with Hz
      rw[<- Hz,Ns])
   refine ⟨_,.inr ⟨i,jL,rfl⟩,ρ,aL,(ax.mono aS bi (fun _ _ h=>h)).put (bM aN) (.bN rfl (fun j ad=>?_)),fun _ _ h=>h,fun _ _=>rfl⟩;have y5:=lH e y4;simp only[eb,fg] at ad;rw[Ns];rcases (show j=0\/j=1\/j=2 by omega) with rfl|rfl|rfl
   ·exact .pure (.lit _ rfl)
   ·exact .pure (.lit _ y5.1)
   ·exact .pure (.lit _ y5.2)
theorem UL (ae:o.op = .entry x) (U:aJ st.env x=some (.own id)) (hh:aM st.heap id=some (.iter left (some pK))) (fS:qB id G=true):bu P G o st (.bN [.lit pK.1,.lit pK.2]):=fun F base w0 ρ a w hH ax cw=>by
 have J:=j8 (df ax U);obtain ⟨r,b,b3,clock,since,seen,dz,aI,a7,cC,eI,fZ,hb,hold,Nr,u9,y3,lH,HA⟩:=hH.cJ _ _ hh;obtain ⟨rfl,C0,e,rfl,y4,rfl⟩:=HA _ rfl;have y5:=lH e y4;refine ⟨.tuple #[e.key,e.val],.bN rfl (fun j ad=>?_),fun aF jo=>?_⟩
 ·match j,ad with
  | 0,_=>exact .pure (.lit _ y5.1)
  | 1,_=>exact .pure (.lit _ y5.2)
 ·have g3:aF.heap[r]? = some (.mapIter (some b) since (C0.push e.born) dz):=by
   rw[jo.block r (gB.1 cC).1 (y6 hH cw fS hh rfl aI rfl)];exact cC
  have g5:aF.heap[b]? = some (.map b3 dz):=by
   rw[jo.block b (gB.1 fZ).1 (Hx cw eI)];exact fZ
  rw[J] at aI;injection aI with aI;unfold execOp;rw[ae];simp only[];rw[aI];simp only[Sem.run_bind,run_entry_at (P:=P) aF r b since C0 b3 dz e g3 g5 y4 hb.1];rfl
section
variable {ops:List Oper} {rest:List Oper} {env:List (Nat×V)} {heap:List (Nat×Option aT)} {next af:Nat} {Q:aW->Prop}
theorem BT {y:Operand} {r:List (Value×Value)} (hr:mL k v es=r) (ae:o.op = .insert T m x y\/o.op = .mapUpdate T m x y:=by first|exact .inl rfl|exact .inr rfl) (hd:o.dst=none:=by rfl) (hm:aJ env m=some (.own id):=by rfl) (hh:aM heap id=some (.map q es):=by rfl) (U:aJ env x=some (.lit k):=by rfl) (aj:aJ env y=some (.lit v):=by rfl) (hq:tb P T=some (q,et):=by rfl) (ag:iA q k=true:=by rfl) (av:b1 env ops o.guard=some true:=by rfl) (h:a6 P n0 ops.toArray rest ⟨env,(id,some (.map q r)) :: heap,next,af⟩ Q):a6 P n0 ops.toArray (o :: rest) ⟨env,heap,next,af⟩ Q:=by
 subst hr;exact xb ae hd hm hh U aj hq ag av h
theorem y7 (ae:o.op = .range T x:=by rfl) (U:aJ env x=some (.own id):=by rfl) (hh:aM heap id=some (.map q es):=by rfl) (hq:tb P T=some (q,et):=by rfl) (av:b1 env ops o.guard=some true:=by rfl) (hd:o.dst=some d:=by rfl) (aN:Nat.blt d af=true:=by rfl) (hn0:Nat.ble n0 next=true:=by rfl) (h:a6 P n0 ops.toArray rest ⟨(d,.own next) :: env,(next,some (.iter es none)) :: (id,some (.gF q es)) :: heap,next+1,af⟩ Q):a6 P n0 ops.toArray (o :: rest) ⟨env,heap,next,af⟩ Q:=by
 obtain ⟨kt,J,aa⟩:=Cm hq;refine C1 (UB (st:=⟨env,heap,next,af⟩) hh) ?_;exact kn av (qj (bM hn0) (UE (T:=T) (id:=id) (q:=q) (es:=es) (st:={ env:=env,heap:=(id,some (.gF q es)) :: heap,next:=next+1,af:=af }) ae U (by simp[aM]) J hd aN)) h
theorem Lo (ae:o.op = .next x false:=by rfl) (U:aJ env x=some (.own id):=by rfl) (hh:aM heap id=some (.iter left cQ):=by rfl) (av:b1 env ops o.guard=some true:=by rfl) (hd:o.dst=some d:=by rfl) (aN:Nat.blt d af=true:=by rfl) (he:left=[]->a6 P n0 ops.toArray rest ⟨(d,.bN [ab false]) :: env,heap,next,af⟩ Q) (h:∀ i,∀ h:i<left.length,a6 P n0 ops.toArray rest ⟨(d,.bN [ab true,.lit left[i].1,.lit left[i].2]) :: env,(id,some (.iter (left.eraseIdx i) (some left[i]))) :: heap,next,af⟩ Q):a6 P n0 ops.toArray (o :: rest) ⟨env,heap,next,af⟩ Q:=by
 refine UG av (UH (st:=⟨env,heap,next,af⟩) ae hd aN U hh) (fun bq aw=>?_);rcases aw with⟨ai,rfl⟩ | ⟨i,hi,rfl⟩
 ·exact he ai
 ·exact h i hi
theorem y8 (ae:o.op = .entry x:=by rfl) (U:aJ env x=some (.own id):=by rfl) (hh:aM heap id=some (.iter left (some pK)):=by rfl) (av:b1 env ops o.guard=some true:=by rfl) (hd:o.dst=some d:=by rfl) (aN:Nat.blt d af=true:=by rfl) (h:a6 P n0 ops.toArray rest ⟨(d,.bN [.lit pK.1,.lit pK.2]) :: env,heap,next,af⟩ Q):a6 P n0 ops.toArray (o :: rest) ⟨env,heap,next,af⟩ Q:=
 ir av hd aN (UL (st:=⟨env,heap,next,af⟩) (G:=[]) ae U hh rfl) h
end
end
end Go.Proofs.YtendheafcbickaaGreat
