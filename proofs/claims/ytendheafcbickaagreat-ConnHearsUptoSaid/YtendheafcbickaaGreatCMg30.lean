/-
  SEVERAL TEXTS IN ONE: each with its own comment.
-/
import Derived.Test.YtendheafcbickaaGreatCMg29
set_option linter.unusedVariables false
set_option linter.unusedSimpArgs false
namespace Go.Proofs.YtendheafcbickaaGreat
variable {A dW l m r:List (List V)} {B bd:aT} {F base:Nat->Prop} {T:TypeId} {bB by_ d e i id j len next pA s t:Nat} {c5:List (Nat×List V)} {cB:List (Nat×Option aT)} {cs vs:List V} {inv:Nat->Option Nat} {mp:Nat->Nat} {parts:Array (Nat×Operand)} {v:V} {w w0:World} {x y:Operand} {ρ:Nat->Option Value}
section
open Go.RowKit
section
variable {P:Program} {o:Oper} {st:aW} {n0:Nat} {G:List Nat}
theorem Tv {t np:TypeId} {e:TypeId} (ae:o.op = .call { callee:=.builtin .len,args:=#[x],argTypes:=#[t] }) (U:aJ st.env x=some (.own id)) (hh:aM st.heap id=some (.ch e s l)) (ht:P.underlying t=some (.slice np)):bu P G o st (I l.length):=
 vw ae fun F base w0 ρ a w hH ax=>⟨_,.pure (.lit _ rfl),fun cs aF=>by
  have h:=j8 (df ax U);obtain ⟨_,v,xs,J,⟨aa,_⟩,_⟩:=hH.cJ _ _ hh;rw[h] at J;injection J with J;rcases aa.2 with⟨ak,ai⟩ | ⟨g,cap,cQ,ak,_⟩
  ·rw[J,ak,ai];exact xx ht _ _ _ _ _ _
  ·rw[J,ak];exact xx ht _ _ _ _ _ _⟩
theorem wQ {T n kp:Nat} {k:IntKind} {m:Int} (ae:o.op = .indexAddr T x y) (U:aJ st.env x=some (.own id)) (hh:aM st.heap id=some (.ch kp s l)) (aj:aJ st.env y=some (.lit (.int k m))) (hm:m=(n:Int)) (hn:n<l.length) (aY:P.underlying T=some (.slice e)) (aw:dr P e=some s):bu P G o st (.ptr id n s 0):=
 iP fun F base w0 ρ a w hH ax=>by
  subst hm;have h:=j8 (df ax U);obtain ⟨_,v,xs,J,⟨aa,_⟩,_⟩:=hH.cJ _ _ hh;rw[h] at J;injection J with J;rcases aa.2 with⟨_,ai⟩ | ⟨g,cap,cQ,ak,_⟩
  ·omega
  ·rw[ak] at J;refine ⟨.pointer (some ⟨g,n * s+0,none⟩),.ptr (b:=g) h (by rw[J];rfl),fun aF=>?_⟩;unfold execOp;rw[ae];simp only[];rw[J,fO (df ax aj)];simp only[Sem.run_bind,Ix aY aw _ _ _ _ _ _ hn,fy,kq];rfl
theorem cr (hh:aM st.heap id=some (.ch e s l)) (hi:i<l.length) (av:qB id G=true) (he:bb l i=cs):Reads G st (.ptr id i s j) (cs.drop j):=
 fun F base w0 ρ w u hH fS ak=>by
  subst he;obtain ⟨r,b,J,aa,az⟩:=pR ak;obtain ⟨va,v,xs,aI,⟨a7,_⟩,cC,eI⟩:=hH.cJ _ _ hh;rw[J] at aI;injection aI with aI;subst aI;have hlen:(bb l i).length=s:=cC i hi;refine ⟨b,i * s+j,fun k=>xs.getD (i * s+j+k) undef,az,fun k ag=>?_,fun aF jo k ag=>?_⟩
  ·rw[zL];simp only[mJ] at ag;obtain ⟨u,hu,ar,_⟩:=eI i (j+k) hi (by omega);have:xs.getD (i * s+j+k) undef=u:=by rw[bZ,Nat.add_assoc,hu];rfl
   show cT _ _ _ _ (xs.getD (i * s+j+k) undef);rw[this];exact ar
  ·simp only[mJ] at ag;obtain ⟨u,hu,ar,_⟩:=eI i (j+k) hi (by omega);have e:xs.getD (i * s+j+k) undef=u:=by rw[bZ,Nat.add_assoc,hu];rfl
   show _=some (xs.getD (i * s+j+k) undef);rw[e];refine jo.cell (y6 hH fS av hh rfl J aa) ?_;rw[Nat.add_assoc];exact IA a7 aa hu
theorem Md (ae:o.op = .store T x y) (hd:o.dst=none) (U:aJ st.env x=some (.ptr id i s j)) (hh:aM st.heap id=some (.ch e s l)) (hi:i<l.length) (aj:aJ st.env y=some v) (hf:flat v=some vs) (aY:dr P T=some vs.length) (ao:Nat.ble (j+vs.length) s=true) :
  GStep P n0 o st { st with heap:=(id,some (.ch e s (l.set i (setAt j vs (bb l i))))) :: st.heap }:=fun F base w0 ρ a w hH ax=>by
 have ao:=bM ao;obtain ⟨r,b,J,aa,az⟩:=pR (df ax U);obtain ⟨pC,cH,xs,aI,⟨a7,qo⟩,cC,eI⟩:=hH.cJ _ _ hh;rw[J] at aI;injection aI with aI;subst aI;obtain ⟨xr,h1⟩:=a7;rcases h1 with⟨rfl,_⟩ | ⟨g,cap,cQ,rfl,tO,av,nv,qp,hN,pD⟩
 ·simp[dU] at aa
 simp only[dU,ck] at aa;subst aa;obtain ⟨fv,gz⟩:=zM (df ax aj) hf (fun id x h=>(hH.sup id x h).2);have lH:∀ v ∈ (a.eval y).cells.toList,v.oneCell' = true:=fun v ak=>by
  obtain ⟨i,hi,rfl⟩:=List.getElem_of_mem ak;simp only[pQ] at hi;have:=(gz i (by omega)).2;simpa[hi] using this
 have hlen:(bb l i).length=s:=cC i hi;have hmul:(i+1) * s<=l.length * s:=kk s hi;have WO:l.length * s<=cap * s:=kk s nv;have WQ:(i+1) * s=i * s+s:=nG i s;have jB:=run_store (P:=P) (T:=T) (n:=vs.length) (g:=g) (off:=i * s+j) aY fv av (by omega) lH;have bW:=(gB.1 av).1;have l3:¬ bs F ρ st.heap g:=fun aw=>aw.2 id _ _ hh rfl J rfl
 refine DL (aF:=w.setRow g (cQ.toList.take (i * s+j)++(a.eval y).cells.toList++cQ.toList.drop (i * s+j+vs.length)).toArray) ?_ ?_
 ·unfold execOp;rw[ae];simp only[az,Sem.run_bind,jB];rfl
 ·rw[hd];have cZ:=IE (us:=cQ) (vs:=(a.eval y).cells) (off:=i * s+j) (by omega);have qL:=fun k=>ID (us:=cQ) (vs:=(a.eval y).cells) (off:=i * s+j) (j:=k) (by omega)
  rw[fv] at cZ qL;generalize (cQ.toList.take (i * s+j)++(a.eval y).cells.toList++cQ.toList.drop (i * s+j+vs.length)).toArray=N at cZ qL ⊢;obtain ⟨aL,aS,bi⟩:=hH.step (bl:=ρ) (cB:=(id,some (.ch e s (l.set i (setAt j vs (bb l i))))) :: st.heap) (next':=st.next) id (some g) (IF w g N)
   (fun k ag=>by injection ag with ag;subst ag;exact⟨qo _ rfl,l3⟩) (fun _ _ h=>h) (fun id u h=>hH.sup id u h)
   (fun i B ct an=>by
    rw[cl,ah (Ne.symm ct)] at an;refine ⟨an,?_⟩;obtain ⟨u,hu⟩:=hH.nd an
    exact⟨u,hu,fun ae b hb e=>by injection e with e;subst e;exact ct (hH.inj i id B _ u _ g an hh ae rfl hu J hb rfl)⟩)
   (fun B u b an ae hu hb=>by
    rw[J] at hu;injection hu with hu;subst hu;simp only[dU,ck] at hb;subst hb;refine .inr ⟨l3,fun i bd dD ct b0 dK c2 cG=>?_⟩;rw[cl,ah (Ne.symm ct)] at b0
    exact ct (hH.inj i id bd _ dD _ g b0 hh dK rfl c2 J cG rfl))
   (fun B an hS dc=>by
    rw[cl,al rfl] at an;injection an with an;subst an;have o5:(l.set i (setAt j vs (bb l i))).length=l.length:=by simp
    have zO:∀ k,bb (l.set i (setAt j vs (bb l i))) k=if i=k then setAt j vs (bb l i) else bb l k:=fun k=>by
     unfold bb;rw[bZ,bZ,bZ,nU];by_cases kW:i=k
     ·subst kW;simp[hi]
     ·simp[kW]
    refine ⟨pC,_,N.toList.take (l.length * s),J,⟨⟨by rw[o5];simp;omega,.inr ⟨g,cap,N,by rw[o5],tO,setRow_heap w g cQ N e _ av,by rw[o5];exact nv,qp,by omega,by rw[o5]⟩⟩,qo⟩,fun k ag=>?_,fun k c ag hc=>?_⟩
    ·rw[zO];rw[o5] at ag;by_cases kW:i=k
     ·rw[al kW,sB];exact hlen
     ·rw[ah kW];exact cC k ag
    ·rw[o5] at ag;have jY:(k+1) * s<=l.length * s:=kk s ag;have yY:(k+1) * s=k * s+s:=nG k s;have cf:(N.toList.take (l.length * s))[k * s+c]? = some (N.getD (k * s+c) undef):=by
      rw[n7,al (by omega)];simp[show k * s+c<N.size by omega]
     refine ⟨_,cf,?_⟩;rw[zO,qL (k * s+c) (by omega)];obtain ⟨IG,nB,fz,zP⟩:=eI k c ag hc;have zQ:cQ.getD (k * s+c) undef=IG:=by
      rw[<- pD,n7,al (by omega)] at nB;simp only[tr] at nB;rw[gg,nB];rfl
     by_cases kW:i=k
     ·subst kW;rw[al rfl,xA _ _ _ (by omega)];by_cases ob:j<=c/\c<j+vs.length
      ·rw[al ob,al (by omega),show i * s+c - (i * s+j)=c - j by omega];have hq:=gz (c - j) (by omega);exact⟨hq.1.mono dc hS (fun _ _ h=>h),hq.2⟩
      ·rw[ah ob,ah (by omega),zQ];exact⟨fz.mono dc hS (fun _ _ h=>h),zP⟩
     ·rw[ah kW];have IH:¬ (i * s+j<=k * s+c/\k * s+c<i * s+j+vs.length):=by
       rintro ⟨g1,g2⟩;rcases Nat.lt_or_gt_of_ne kW with hh|hh
       ·have:(i+1) * s<=k * s:=kk s hh;omega
       ·have:(k+1) * s<=i * s:=kk s hh;omega
      rw[ah IH,zQ]
      exact⟨fz.mono dc hS (fun _ _ h=>h),zP⟩)
  exact⟨ρ,aL,ax.mono aS bi (fun _ _ h=>h),fun _ _ h=>h,fun _ _=>rfl⟩
theorem Mb {k:Nat} (ae:o.op = .buildSlice t len parts) (hd:o.dst=some d) (aN:Nat.blt d st.af=true) (ht:P.underlying t=some (.slice e)) (ar:mo st.env parts.toList=some c5) (ao:r0 P e len c5=some l) (hlen:Nat.blt 0 len=true) (jO:Nat.ble (len * (dr P e).getD 0) 16777216=true) :
  kU P k o st (st.newAt k d (.own k) (.ch e ((dr P e).getD 0) l)):=fun F base w0 ρ a w hH ax fY ag=>by
 obtain ⟨s,z,cs,aw,aU,xS,ai,hf,rfl⟩:=Qv ao;rw[aw] at jO;obtain ⟨us,jB,hc,e7⟩:=Qw hH ax ht aw aU xS ai (bM hlen) (bM jO) ar hf;refine l5 (u:=.slice (some ⟨w.heap.size,0,none⟩) len len) (aF:=w.alloc (.cells us e)) ?_ ?_
 ·unfold execOp;rw[ae];simp only[Sem.run_bind,jB];rfl
 ·rw[hd];have kG:∀ id x,ρ id=some x->jZ ρ k (.slice (some ⟨w.heap.size,0,none⟩) len len) id=some x:=fun id x h=>by rw[jd _ _ (fun e=>by rw[e,fY] at h;cases h)];exact h
  have hr:=J8 s len cs e7;have pX:=J9 s len cs;have YP:len<=16777216:=qJ (Nat.le_mul_of_pos_right len ai) (bM jO);refine u6 hH ax fY ag (tv _ _) (fun _ b hb=>by simp only[dU,ck] at hb;omega) (bM aN) rfl (fun S hS _ dc=>?_) (fun S=>.own (gO _ _ _));rw[aw];refine ⟨ai,_,us.toList,gO _ _ _,⟨⟨by rw[pX,pQ,hc.1,e7];rfl,.inr ⟨w.heap.size,len,us,by rw[pX],cm _,zN _ _ _,by rw[pX];exact e4 _,by unfold maxLen;omega,by rw[hc.1,e7];rfl,?_⟩⟩,fun b hb=>?_⟩,fun i hi=>(hr i (by rw[pX] at hi;exact hi)).1,fun i j hi ad=>?_⟩
  ·rw[pX,j9];rw[pQ,hc.1,e7];exact e4 _
  ·simp only[dU,ck] at hb;exact hH.fl b (by omega)
  ·have oJ:=hi;rw[pX] at hi;have J:(i+1) * s<=len * s:=kk s hi;have aa:(i+1) * s=i * s+s:=nG i s;have ad:j<s:=ad;have Qx:=hc.2 (i * s+j) (by rw[e7];omega);refine ⟨us.getD (i * s+j) undef,?_,?_,Qx.2⟩
   ·show us.toList[i * s+j]? = _;rw[tr,l2 (by rw[hc.1,e7];omega),gg,l2 (by rw[hc.1,e7];omega)];rfl
   ·rw[(hr i hi).2 j ad];exact Qx.1.mono dc hS kG
theorem Mc {k:Nat} (ae:o.op = .call { callee:=.builtin .append,args:=#[x,y],argTypes:=#[t,t] }) (hd:o.dst=some d) (aN:Nat.blt d st.af=true) (U:aJ st.env x=some (.own id)) (hh:aM st.heap id=some (.ch e s l)) (aj:aJ st.env y=some (.own pA)) (uW:aM st.heap pA=some (.ch e s m)) (ht:P.underlying t=some (.slice e)) (aw:dr P e=some s) (hb:jw P e=some by_) (aU:∃ z,gZ P e=some z/\z.length=s) (fp:(l.length+m.length) * by_<=140737488355328) (h63:l.length+m.length<=9223372036854775807) :
  kU P k o st { env:=(d,.own k) :: st.env,heap:=(k,some (.ch e s (l++m))) :: (id,none) :: st.heap,next:=st.next,af:=st.af }:=fun F base w0 ρ a w hH ax fY ag=>by
 obtain ⟨i,z,hi,kZ,cZ,hl,tS⟩:=DW aw hb aU;have lN:=j8 (df ax U);have YQ:=j8 (df ax aj);obtain ⟨ai,r,xs,J,⟨aa,DX⟩,az,bk⟩:=hH.cJ _ _ hh;rw[lN] at J;injection J with J;subst J;obtain ⟨_,xK,news,bB,⟨de,_⟩,hm,jI⟩:=hH.cJ _ _ uW;rw[YQ] at bB;injection bB with bB;subst bB;have om:news.length=m.length * s:=de.1;obtain ⟨A,c,hu,dC⟩:∃ A c,a.eval y = .slice A m.length c/\(m.length=0 \/ ∃ a,A=some a /\ ∀ j u,news[j]? = some u->w.cell? (a.add j)=some u):=by
  rcases de.2 with⟨hq,hn⟩ | ⟨g,cap,cQ,hq,_⟩
  ·exact⟨none,0,by rw[hq,hn],.inl hn⟩
  ·exact⟨_,_,hq,.inr ⟨_,rfl,de.cells (by rw[hq];rfl)⟩⟩
 have lH:∀ u ∈ news,u.oneCell' = true:=by
  intro u hu;obtain ⟨q,hq,rfl⟩:=List.getElem_of_mem hu;have qP:q / s<m.length:=Nat.div_lt_of_lt_mul (by rw[Nat.mul_comm];omega);obtain ⟨u,mv,_,ar⟩:=jI (q / s) (q % s) qP (Nat.mod_lt _ ai);have z6:q / s * s+q % s=q:=by rw[Nat.mul_comm];exact Nat.div_add_mod q s
  rw[z6,eB hq] at mv;injection mv with mv;rw[mv];exact ar
 obtain ⟨cH,aF,hr,kr,av,hB⟩:=IY (P:=P) (ty:=o.type) ht hi kZ cZ hl tS ai aa (c:=c) om dC lH qN fp (cm _);have hid:id≠k:=fun e=>by rw[e,fY] at lN;cases lN
 have kG:∀ id x,ρ id=some x->jZ ρ k cH id=some x:=fun id x h=>by rw[jd _ _ (fun e=>by rw[e,fY] at h;cases h)];exact h
 have oE:∀ b,(a.eval x).ownBlock=some b->dU (a.eval x)=some b:=fun b hb=>by
  cases I0:a.eval x <;> rw[I0] at hb <;> simp[Value.ownBlock] at hb
  rename_i a0 _ _
  cases a0 <;> simp_all [Value.ownBlock,dU]
 have z7:cH.oneCell' = true:=by rcases kr.2 with⟨rfl,_⟩ | ⟨_,_,_,rfl,_⟩ <;> rfl
 refine l5 (u:=cH) (aF:=aF) ?_ ?_
 ·unfold execOp;rw[ae];simp only[resolve,invoke,builtin,Sem.run_bind,Sem.run_pure,Result.andThen_ok,List.map_toArray,iM,sZ,hu,hr]
 ·rw[hd];obtain ⟨aL,aS,bi⟩:=hH.step (bl:=jZ ρ k cH) (cB:=(k,some (.ch e s (l++m))) :: (id,none) :: st.heap) (next':=st.next) k (a.eval x).ownBlock av
   (fun mZ ag=>by
    have eS:=oE mZ ag
    exact⟨(hH.owned hh rfl lN eS).1,fun lk=>lk.2 id _ _ hh rfl lN eS⟩) kG
   (fun id x h=>by
    by_cases e:id=k
    ·rw[e,gO] at h;injection h with h;subst h;exact⟨by omega,z7⟩
    ·rw[jd _ _ e] at h;have:=hH.sup _ _ h;exact⟨by omega,this.2⟩)
   (fun j B ct an=>by
    rw[cl,ah (Ne.symm ct),cl] at an;split at an
    ·cases an
    ·rename_i jV;refine ⟨an,?_⟩;obtain ⟨u,hu⟩:=hH.nd an
     exact⟨u,hu,fun ae b hb e=>jV (hH.inj id j _ B _ u b hh an rfl ae lN hu (oE b e) hb)⟩)
   (fun B u b an ur hu hb=>by
    rw[gO] at hu;injection hu with hu;subst hu;rcases hB with hB|hB
    ·rw[hB] at hb;refine .inr ⟨fun lk=>lk.2 id _ _ hh rfl lN hb,fun j bd dD ct b0 dK c2 cG=>?_⟩;rw[cl,ah (Ne.symm ct),cl] at b0;split at b0
     ·cases b0
     ·rename_i jV;rw[jd _ _ ct] at c2;exact jV (hH.inj id j _ bd _ dD b hh b0 rfl dK lN c2 hb cG)
    ·exact .inl (hB b hb))
   (fun B an hS dc=>by
    rw[cl,al rfl] at an;injection an with an;subst an;refine ⟨ai,cH,xs++news,gO _ _ _,⟨(by rw[eE];exact kr),fun b hb=>hB.elim (fun hB=>DX b (by rw[<- hB];exact hb)) (fun hB=>hH.fl b (hB b hb))⟩,fun k ag=>?_,fun k j ag ad=>?_⟩
    ·rw[mf];split
     ·rename_i ca;exact az k ca
     ·rename_i ca;rw[eE] at ag;exact hm _ (by omega)
    ·rw[mf];have xr:xs.length=l.length * s:=aa.1;split
     ·rename_i ca;obtain ⟨u,g1,g2,g3⟩:=bk k j ca ad;have I1:k * s+j<l.length * s:=by
       have dG:(k+1) * s<=l.length * s:=kk s ca;have h9:(k+1) * s=k * s+s:=nG k s;omega
      exact⟨u,by rw[sh (by omega)];exact g1,g2.mono dc hS kG,g3⟩
     ·rename_i ca;rw[eE] at ag;obtain ⟨u,g1,g2,g3⟩:=jI (k - l.length) j (by omega) ad;have dG:(k - l.length) * s=k * s - l.length * s:=Nat.sub_mul k l.length s;have h9:l.length * s<=k * s:=kk s (by omega);refine ⟨u,?_,g2.mono dc hS kG,g3⟩;rw[sg (by omega),xr,show k * s+j - l.length * s=(k - l.length) * s+j by omega]
      exact g1)
  exact⟨jZ ρ k cH,aL,(ax.mono aS bi kG).put (bM aN) (.own (gO _ _ _)),kG,fun j ad=>jd _ _ ad⟩
end
section
variable {P:Program} {n0:Nat}
theorem Ka {st:aW} (hh:aM st.heap id=some B) (ae:B.owns=true) (dK:bd.owns=true) (h:∀ F base w0 ρ w,eA F base ρ st.heap st.next w0 w->rq base ρ (bs F ρ st.heap) w id B->rq base ρ (bs F ρ st.heap) w id bd):cg P n0 st { st with heap:=(id,some bd) :: st.heap }:=
 fun F base w0 ρ a w hH ax=>by
  have hS:bs F ρ ((id,some bd) :: st.heap)=bs F ρ st.heap:=funext fun b=>propext ⟨fun h=>⟨h.1,fun j C u dZ pb hu=>by
    by_cases e:id=j
    ·subst e;rw[hh] at dZ;injection dZ with dZ;subst dZ;exact h.2 id bd u (by rw[cl,al rfl]) dK hu
    ·exact h.2 j C u (by rw[cl,ah e];exact dZ) pb hu⟩,fun h=>⟨h.1,fun j C u dZ pb hu=>by
    rw[cl] at dZ;split at dZ
    ·rename_i e;subst e;exact h.2 id B u hh ae hu
    ·exact h.2 j C u dZ pb hu⟩⟩
  refine ⟨ρ,⟨⟨hH.below,hH.fl,hH.sup,fun i j C rB u dD b dZ vR pb Kb hu c2 hb cG=>?_,fun j C dZ=>?_⟩,hH.dX⟩,?_,fun _ _=>rfl⟩
  ·rw[cl] at dZ vR;have g:∃ C,aM st.heap i=some C/\C.owns=true:=by
    split at dZ
    ·rename_i e;subst e;exact⟨B,hh,ae⟩
    ·exact⟨C,dZ,pb⟩
   have DJ:∃ C,aM st.heap j=some C/\C.owns=true:=by
    split at vR
    ·rename_i e;subst e;exact⟨B,hh,ae⟩
    ·exact⟨rB,vR,Kb⟩
   obtain ⟨D,d1,d2⟩:=g;obtain ⟨Kc,Kd,Ke⟩:=DJ;exact hH.inj i j D Kc u dD b d1 Kd d2 Ke hu c2 hb cG
  ·rw[hS];rw[cl] at dZ;split at dZ
   ·rename_i e;subst e;injection dZ with dZ;subst dZ;exact h F base w0 ρ w hH (hH.cJ _ _ hh)
   ·exact hH.cJ j C dZ
  ·exact⟨ax.size,ax.defers,fun t v ak=>by show cT ρ (bs F ρ ((id,some bd) :: st.heap)) w v _;rw[hS];exact ax.slot t v ak⟩
theorem BV {st:aW} (hh:aM st.heap id=some (.row e s l)):cg P n0 st { st with heap:=(id,some (.ch e s l)) :: st.heap }:=
 Ka hh rfl rfl fun F base w0 ρ w _ h=>by
  obtain ⟨ai,v,xs,J,aa,az,bk⟩:=h;exact⟨ai,v,xs,J,aa,az,fun i j hi ad=>by obtain ⟨u,aL,aS,bi⟩:=bk i j hi ad;exact⟨u,aL,.pure aS,bi⟩⟩
theorem wu {st:aW} (hh:aM st.heap id=some (.ch e s l)) (ar:∀ i j,i<l.length->j<s->hQ (bw (bb l i) j)=true):cg P n0 st { st with heap:=(id,some (.row e s l)) :: st.heap }:=
 Ka hh rfl rfl fun F base w0 ρ w _ h=>by
  obtain ⟨ai,v,xs,J,aa,az,bk⟩:=h;exact⟨ai,v,xs,J,aa,az,fun i j hi ad=>by obtain ⟨u,aL,aS,bi⟩:=bk i j hi ad;exact⟨u,aL,yP aS (ar i j hi ad),bi⟩⟩
def YR (heap:List (Nat×Option aT)) (v cH:V):Prop:=cH = v \/ ∃ m l,v = .own m/\aM heap m=some (.dY l)/\cH = .ro l
theorem NB {st:aW} (hh:aM st.heap id=some (.ch e s l)) (ao:dW.length=l.length) (aw:∀ i,i<l.length->(bb dW i).length=(bb l i).length) (ar:∀ i j,i<l.length->j<s->YR st.heap (bw (bb l i) j) (bw (bb dW i) j)):cg P n0 st { st with heap:=(id,some (.ch e s dW)) :: st.heap }:=
 Ka hh rfl rfl fun F base w0 ρ w hH h=>by
  obtain ⟨ai,v,xs,J,aa,az,bk⟩:=h;refine ⟨ai,v,xs,J,by rw[ao];exact aa,fun i hi=>by rw[aw i (by omega)];exact az i (by omega),fun i j hi ad=>?_⟩;obtain ⟨u,aL,aS,bi⟩:=bk i j (by omega) ad;refine ⟨u,aL,?_,bi⟩;rcases ar i j (by omega) ad with e | ⟨m,EB,aI,a7,cC⟩
  ·rw[e];exact aS
  ·rw[cC];rw[aI] at aS;obtain ⟨v2,g1,g2,_⟩:=hH.cJ _ _ a7;rw[j8 aS] at g1;injection g1 with g1;subst g1;exact .pure g2
theorem EC {B:List (List V)} {c:List V} (i:Nat):bb (A++c :: B) i=if i<A.length then bb A i else if i=A.length then c else bb B (i - A.length - 1):=by
 rw[mf];split
 ·rfl
 ·by_cases h:i=A.length
  ·rw[al h,h,ra];rfl
  ·rw[ah h];obtain ⟨j,ad⟩:∃ j,i - A.length=j+1:=⟨i - A.length - 1,by omega⟩;rw[ad,Nat.add_sub_cancel];rfl
theorem yi {st:aW} {m:Nat} {a:V} {B EB:List (List V)} (hh:aM st.heap id=some (.ch e s l)) (hm:aM st.heap m=some (.dY EB)) (ao:l=A++[a,.own m] :: B) (sd:dW = A++[a,.ro EB] :: B):cg P n0 st { st with heap:=(id,some (.ch e s dW)) :: st.heap }:=by
 subst ao sd;refine NB hh (by simp) (fun i _=>?_) (fun i j _ _=>?_)
 ·rw[EC,EC];split
  ·rfl
  ·split <;> rfl
 ·rw[EC,EC];split
  ·exact .inl rfl
  ·split
   ·match j with
    | 0=>exact .inl rfl
    | 1=>exact .inr ⟨m,EB,rfl,hm,rfl⟩
    | n+2=>exact .inl rfl
   ·exact .inl rfl
theorem Mn {st:aW} {α:Type} [Inhabited α] {f:α->List V} {l:List α} (hh:aM st.heap id=some (.ch e s (l.map f))) (hf:∀ x,(f x).all hQ=true/\(f x).length=s):cg P n0 st { st with heap:=(id,some (.row e s (l.map f))) :: st.heap }:=
 wu hh (fun i j hi ad=>by
  rw[bY] at hi;rw[gV f hi];have h:=(hf (l.getD i default)).1;have ad:j<(f (l.getD i default)).length:=by rw[(hf _).2];exact ad
  generalize f (l.getD i default)=cs at *;rw[lG] at h;refine h _ ?_
  unfold bw;rw[bZ,eB ad];exact List.getElem_mem ad)
end
def pg (inv:Nat->Option Nat) (heap:List (Nat×Option aT)) (B bd:aT):Prop:=
 gE inv heap B=some bd \/ ∃ e s l dW,B = .ch e s l/\bd = .ch e s dW /\ dW.length=l.length /\ ∀ i,i<l.length->e6.me inv heap (bb l i)=some (bb dW i)
theorem ED {heap:List (Nat×Option aT)} (h:pg inv heap B bd) (ae:bd.owns=true):B.owns=true:=by
 rcases h with h | ⟨e,s,l,dW,rfl,rfl,_⟩
 ·cases B with
  | box t cs=>rfl
  | row=>rfl
  | dY l=>simp only[gE,ck] at h;subst h;cases ae
  | map q es=>rfl
  | obj o=>rfl
  | mV be lL=>rfl
  | ch e s l=>rfl
  | gF q es=>simp only[gE,ck] at h;subst h;cases ae
  | iter left cQ=>rfl
 ·rfl
section
variable {P:Program} {n0:Nat}
theorem Qy {heap:List (Nat×Option aT)} (hh:∀ id bd,aM cB id=some bd -> inv (mp id)=some id /\ ∃ B,aM heap (mp id)=some B/\pg inv heap B bd) {b:Nat} (h:bs F ρ heap b):bs F (kf ρ inv mp) cB b:=by
 refine ⟨h.1,fun id bd u an ae hu=>?_⟩;obtain ⟨_,B,aa,az⟩:=hh id bd an;exact h.2 (mp id) B u aa (ED az ae) (pY hu).2
theorem Cq {heap:List (Nat×Option aT)} (hr:Ren n0 bB inv mp) (hH:eA F base ρ heap next w0 w) (hh:∀ id bd,aM cB id=some bd -> inv (mp id)=some id /\ ∃ B,aM heap (mp id)=some B/\pg inv heap B bd) {u:Value} (h:cT ρ (bs F ρ heap) w v u):∀ {cH},e6 inv heap v=some cH -> cT (kf ρ inv mp) (bs F (kf ρ inv mp) cB) w cH u:=by
 have hS:∀ b,bs F ρ heap b->b<w.heap.size->bs F (kf ρ inv mp) cB b:=fun b h _=>Qy hh h
 induction h with
 | @pure v u h=>
  intro cH ak;have ar:=h.mono (dl.refl _ _) hS
  cases h with
  | lit=>simp only[e6,ck] at ak;subst ak;exact .pure ar
  | ro=>simp only[e6,ck] at ak;subst ak;exact .pure ar
 | @own id u h=>
  intro cH ak;simp only[e6] at ak;split at ak
  ·rename_i dk hi;injection ak with ak;subst ak;exact .own (by rw[qk hr hi];exact h)
  ·rename_i hi;split at ak
   ·rename_i e s l qV;injection ak with ak;subst ak;obtain ⟨ai,v,xs,J,⟨aa,_⟩,az,bk⟩:=hH.cJ _ _ qV;rw[h] at J;injection J with J;subst J;refine .pure (DV ai aa az bk hS (fun b hb=>⟨hH.dX b (hH.owned qV rfl h hb).1,fun dk bd dD b0 dK c2 hl=>?_⟩));obtain ⟨g1,B,g2,g3⟩:=hh dk bd b0;obtain ⟨g4,g5⟩:=pY c2;have:=hH.inj _ _ _ _ _ _ b g2 qV (ED g3 dK) rfl g5 h hl hb;rw[this,hi] at g1;cases g1
   ·rename_i l qV;injection ak with ak;subst ak;obtain ⟨v,J,aa,_⟩:=hH.cJ _ _ qV;rw[h] at J;injection J with J;subst J;exact .pure (aa.mono (dl.refl _ _) hS)
   ·cases ak
 | @ptr id i s j b u h hb=>
  intro cH ak;simp only[e6] at ak;split at ak
  ·rename_i dk hi;injection ak with ak;subst ak;exact .ptr (by rw[qk hr hi];exact h) hb
  ·cases ak
 | fk us pP hc wD=>
  intro cH ak;simp only[e6,ck] at ak;subst ak;exact .fk us (fun h=>hS _ (pP h) (qK (hc 0 h))) hc (fun j ad=>(wD j ad).mono (dl.refl _ _) hS)
 | agg hn h bU=>
  intro cH ak;simp only[e6] at ak;split at ak
  ·rename_i eU hN;injection ak with ak;subst ak;obtain ⟨aI,a7⟩:=qW hN;exact .agg (by rw[aI];exact hn) (fun j ad=>bU j (by omega) (a7 j (by omega)))
  ·cases ak
 | bN hn h bU=>
  intro cH ak;simp only[e6] at ak;split at ak
  ·rename_i eU hN;injection ak with ak;subst ak;obtain ⟨aI,a7⟩:=qW hN;exact .bN (by rw[aI];exact hn) (fun j ad=>bU j (by omega) (a7 j (by omega)))
  ·cases ak
 | fs hn h bU=>
  intro cH ak;simp only[e6] at ak;split at ak
  ·rename_i eU hN;injection ak with ak;subst ak;obtain ⟨aI,a7⟩:=qW hN;exact .fs (by rw[aI];exact hn) (fun j ad=>bU j (by omega) (a7 j (by omega)))
  ·cases ak
 | any u=>intro cH ak;simp only[e6,ck] at ak;subst ak;exact .any u
 | gN=>intro cH ak;simp only[e6,ck] at ak;subst ak;exact .gN
theorem Gs {heap:List (Nat×Option aT)} (hr:Ren n0 bB inv mp) (hH:eA F base ρ heap next w0 w) (hh:∀ id bd,aM cB id=some bd -> inv (mp id)=some id /\ ∃ B,aM heap (mp id)=some B/\pg inv heap B bd):eA F base (kf ρ inv mp) cB bB w0 w:=by
 have hS:∀ b,bs F ρ heap b->b<w.heap.size->bs F (kf ρ inv mp) cB b:=fun b h _=>Qy hh h
 refine ⟨⟨hH.below,hH.fl,fun id u hu=>⟨(hr.back (pY hu).1).2,(hH.sup _ u (pY hu).2).2⟩,fun id dk B bd u dD b an b0 ae dK hu c2 hb cG=>?_,fun id bd b0=>?_⟩,hH.dX⟩
 ·obtain ⟨g1,C,g2,g3⟩:=hh id B an;obtain ⟨bB,rB,de,fJ⟩:=hh dk bd b0;have:=hH.inj _ _ _ _ _ _ b g2 de (ED g3 ae) (ED fJ dK) (pY hu).2 (pY c2).2 hb cG;rw[this,bB] at g1;injection g1 with g1;exact g1.symm
 ·obtain ⟨g1,B,g2,g3⟩:=hh id bd b0;have eS:=hH.cJ _ _ g2;have e:kf ρ inv mp id=ρ (mp id):=by unfold kf;rw[al g1]
  rcases g3 with g3 | ⟨ty,s,l,dW,rfl,rfl,g4,g5⟩
  ·cases B with
   | box t cs=>
    obtain ⟨b,us,aL,aS,bi,cq,e3⟩:=eS;simp only[gE] at g3;split at g3
    ·rename_i eU hN;injection g3 with g3;subst g3;obtain ⟨aI,a7⟩:=qW hN;exact⟨b,us,by rw[e];exact aL,aS,bi,by omega,fun j ad=>⟨Cq hr hH hh (e3 j (by omega)).1 (a7 j (by omega)),(e3 j (by omega)).2⟩⟩
    ·cases g3
   | row ty s l=>
    simp only[gE,ck] at g3;subst g3;obtain ⟨ai,v,xs,aL,aS,bi,cq⟩:=eS
    exact⟨ai,v,xs,by rw[e];exact aL,aS,bi,fun i j hi ad=>by
     obtain ⟨u,hu,ar,ae⟩:=cq i j hi ad
     exact⟨u,hu,ar.mono (dl.refl _ _) hS,ae⟩⟩
   | dY l=>
    simp only[gE,ck] at g3;subst g3;obtain ⟨v,aL,aS,bi⟩:=eS;exact⟨v,by rw[e];exact aL,aS.mono (dl.refl _ _) hS,bi⟩
   | map q es=>
    simp only[gE,ck] at g3;subst g3;obtain ⟨b,b3,clock,aL,aS⟩:=eS;exact⟨b,b3,clock,by rw[e];exact aL,aS⟩
   | obj o=>
    simp only[gE,ck] at g3;subst g3;obtain ⟨b,aL,aS⟩:=eS;exact⟨b,by rw[e];exact aL,aS⟩
   | mV be lL=>
    simp only[gE,ck] at g3;subst g3;obtain ⟨b,cap,cQ,jq,aL,aS⟩:=eS;exact⟨b,cap,cQ,jq,by rw[e];exact aL,aS⟩
   | ch ty s l=>simp only[gE] at g3;cases g3
   | gF q es=>
    simp only[gE,ck] at g3;subst g3;obtain ⟨b,b3,clock,aL,aS,bi⟩:=eS;exact⟨b,b3,clock,by rw[e];exact aL,hS b aS (gB.1 bi.1).1,bi⟩
   | iter left cQ=>
    simp only[gE,ck] at g3;subst g3;obtain ⟨r,b,b3,clock,since,seen,dz,aL,aS,bi,cq,e3⟩:=eS;exact⟨r,b,b3,clock,since,seen,dz,by rw[e];exact aL,aS,bi,hS b cq (gB.1 e3.1).1,e3⟩
  ·obtain ⟨ai,v,xs,aL,aS,bi,cq⟩:=eS;refine ⟨ai,v,xs,by rw[e];exact aL,by rw[g4];exact aS,fun i hi=>?_,fun i j hi ad=>?_⟩
   ·rw[(qW (g5 i (by omega))).1];exact bi i (by omega)
   ·obtain ⟨u,hu,ar,ae⟩:=cq i j (by omega) ad;exact⟨u,hu,Cq hr hH hh ar ((qW (g5 i (by omega))).2 j (by rw[bi i (by omega)];exact ad)),ae⟩
def wN (L:List (Nat×Nat)) (heap:List (Nat×Option aT)):List (Nat×Option aT)->Prop
 | []=>True
 | (id,none) :: r=>wN L heap r
 | (id,some bd) :: r=>(gf L (ic L id)=some id /\ ∃ B,aM heap (ic L id)=some B/\pg (gf L) heap B bd)/\wN L heap r
theorem Cp {L:List (Nat×Nat)} {heap:List (Nat×Option aT)}:∀ {e:List (Nat×Option aT)},wN L heap e -> ∀ id bd,aM e id=some bd -> gf L (ic L id)=some id /\ ∃ B,aM heap (ic L id)=some B/\pg (gf L) heap B bd
 | [],_,t,v,h=>by simp[aM] at h
 | (s,none) :: r,hc,t,v,h=>by
  rw[cl] at h;split at h
  ·cases h
  ·exact Cp (e:=r) hc t v h
 | (s,some u) :: r,hc,t,v,h=>by
  rw[cl] at h;split at h
  ·rename_i e;subst e;injection h with h;subst h;exact hc.1
  ·exact Cp (e:=r) hc.2 t v h
theorem jG {st bq:aW} (L:List (Nat×Nat)) (cw:r2 n0 bq.next L=true) (hc:Bm L st.heap st.env bq.env) (hh:wN L st.heap bq.heap) (hnt:bq.af=st.af):cg P n0 st bq:=
 fun F base w0 ρ a w hH ax=>by
  have hr:=Co cw;have hh:=Cp hh;refine ⟨kf ρ (gf L) (ic L),Gs hr hH hh,⟨by rw[hnt];exact ax.size,ax.defers,fun t v ak=>?_⟩,fun id hid=>qk hr (hr.low hid)⟩;obtain ⟨u,J,aa⟩:=Kf hc t v ak;exact Cq hr hH hh (ax.slot t u J) aa
theorem Mf {heap:List (Nat×Option aT)} (h:hQ v=true):e6 inv heap v=some v:=by
 cases v <;> first|rfl|cases h
theorem BN {inv:Nat->Option Nat} {heap:List (Nat×Option aT)}:∀ {cs:List V},cs.all hQ=true->e6.me inv heap cs=some cs
 | [],_=>rfl
 | c :: cs,h=>by
  simp only[List.all_cons,fM] at h;simp only[e6.me,Mf h.1,BN h.2]
theorem p3 {heap:List (Nat×Option aT)} {eU:List V} (ao:∀ x ∈ l,x.all hQ=true) (h:e6.me inv heap cs=some eU):pg inv heap (.ch e s (l++[cs])) (.ch e s (l++[eU])):=by
 refine .inr ⟨e,s,_,_,rfl,rfl,by simp,fun i hi=>?_⟩;rw[mf,mf];split
 ·rename_i jL;refine BN (ao _ ?_);unfold bb;rw[bZ,eB jL];exact List.getElem_mem jL
 ·simp only[eE,eb,fg] at hi;have va:i - l.length=0:=by omega
  rw[va];exact h
theorem Ss :bb (l++[cs]) l.length=cs:=by
 rw[mf,ah (by omega),ra];rfl
theorem Ll {ds:List V}:(l++[cs]).set l.length ds=l++[ds]:=by
 rw[List.set_append_right _ _ (e4 _),ra];rfl
end
section
variable {P:Program} {o:Oper} {af aA k bn:Nat} {ops:List Oper} {W:Nat->Nat->Bool} {rest:List Oper} {env:List (Nat×V)} {heap:List (Nat×Option aT)} {Q:aW->Prop}
theorem yE (hi:i<l.length) (hr:l.set i (setAt j vs (bb l i))=r) (ae:o.op = .store T x y:=by rfl) (av:b1 (bt (looks ops o) env) ops o.guard=some true:=by rfl) (hd:o.dst=none:=by rfl) (U:aJ (bt (looks ops o) env) x=some (.ptr id i s j):=by rfl) (hh:aM heap id=some (.ch e s l):=by rfl) (aj:aJ (bt (looks ops o) env) y=some v:=by rfl) (hf:flat v=some vs:=by rfl) (aY:dr P T=some vs.length:=by rfl) (ao:Nat.ble (j+vs.length) s=true:=by rfl) (ag:k+1=bn:=by(simp only[Nat.reduceAdd];rfl)) (hb:Nat.ble aA k=true:=by rfl) (kx:W (k - aA) id=true:=by rfl) (ak:jQ ops W aA (k - aA) id=true:=by kernel_rfl) (h:bf P af aA ops W bn rest env ((id,some (.ch e s r)) :: heap) Q):bf P af aA ops W k (o :: rest) env heap Q:=by
 subst ag;subst hr;refine oo (s:=⟨.gN,[(id,some (.ch e s (l.set i (setAt j vs (bb l i)))))]⟩) (fun N J aa=>⟨bt (looks ops o) env,[(id,some (.ch e s l))],fun t x h=>nI h,fun dk bd c6=>?_,fun dk h=>.inr ?_,?_⟩) ?_ hb
 ·rw[cl] at c6;split at c6
  ·rename_i e;subst e;injection c6 with c6;subst c6;exact⟨ak,hh⟩
  ·cases c6
 ·rw[rz h,ae];exact⟨kx,rfl,ak⟩
 ·refine vD av (fun fW cB ax hH=>?_);have:=Md (P:=P) (n0:=N) (st:=⟨fW,cB,N,af⟩) ae hd (kB ax U) (hH id (.ch e s l) (by simp[aM])) hi (kB ax aj) hf aY ao;rw[hd];exact this
 ·rw[hd];exact h
theorem Ml {l:List (List V)} (ae:o.op = .buildSlice t len parts:=by rfl) (ht:P.underlying t=some (.slice e):=by rfl) (aw:(dr P e).getD 0=s:=by rfl) (ar:mo (bt (looks ops o) env) parts.toList=some c5:=by rfl) (ao:r0 P e len c5=some l:=by rfl) (hv:lc l dW:=by repeat'(first|exact lc.nil|apply lc.cons|exact Norm.nil|apply Norm.cons)) (av:b1 (bt (looks ops o) env) ops o.guard=some true:=by rfl) (hd:o.dst=some d:=by rfl) (aN:Nat.blt d af=true:=by rfl) (hlen:Nat.blt 0 len=true:=by rfl) (jO:Nat.ble (len * (dr P e).getD 0) 16777216=true:=by rfl) (ag:k+1=bn:=by(simp only[Nat.reduceAdd];rfl)) (cG:Nat.ble aA k=true:=by rfl) (h:bf P af aA ops W bn rest ((d,.own k) :: env) ((k,some (.ch e s dW)) :: heap) Q):bf P af aA ops W k (o :: rest) env heap Q:=by
 have e:=hv.eq;subst e;subst aw;exact rD (Hn:=[]) (H:=[(k,some (.ch _ ((dr P _).getD 0) l))]) av hd ag cG (fun id B h=>by cases h) (fun id h=>.inl (rz h)) (fun N fW cB ax hH=>Mb (st:=⟨fW,cB,N,af⟩) ae hd aN ht (Kg ax ar) ao hlen jO) h
theorem Mm (hr:l++m=r) (fp:(l.length+m.length) * by_<=140737488355328) (h63:l.length+m.length<=9223372036854775807) (ae:o.op = .call { callee:=.builtin .append,args:=#[x,y],argTypes:=#[t,t] }:=by rfl) (U:aJ (bt (looks ops o) env) x=some (.own id):=by rfl) (hh:aM heap id=some (.ch e s l):=by rfl) (aj:aJ (bt (looks ops o) env) y=some (.own pA):=by rfl) (uW:aM heap pA=some (.ch e s m):=by rfl) (ct:id≠pA:=by decide) (ht:P.underlying t=some (.slice e):=by rfl) (aw:dr P e=some s:=by rfl) (hb:jw P e=some by_:=by rfl) (aU:∃ z,gZ P e=some z/\z.length=s:=by exact⟨_,rfl,rfl⟩) (av:b1 (bt (looks ops o) env) ops o.guard=some true:=by rfl) (hd:o.dst=some d:=by rfl) (aN:Nat.blt d af=true:=by rfl) (ag:k+1=bn:=by(simp only[Nat.reduceAdd];rfl)) (cG:Nat.ble aA k=true:=by rfl) (kx:W (k - aA) id=true:=by rfl) (uc:jQ ops W aA (k - aA) id=true:=by kernel_rfl) (YS:jQ ops W aA (k - aA) pA=true:=by kernel_rfl) (h:bf P af aA ops W bn rest ((d,.own k) :: env) ((k,some (.ch e s r)) :: (id,none) :: heap) Q):bf P af aA ops W k (o :: rest) env heap Q:=by
 subst hr;refine rD (Hn:=[(id,some (.ch e s l)),(pA,some (.ch e s m))]) (H:=[(k,some (.ch e s (l++m))),(id,none)]) av hd ag cG (fun dk bd c6=>?_) (fun dk h=>?_) (fun N fW cB ax hH=>Mc (st:=⟨fW,cB,N,af⟩) ae hd aN (kB ax U) (hH id (.ch e s l) (by rw[cl,al rfl])) (kB ax aj) (hH pA (.ch e s m) (by rw[cl,ah ct,cl,al rfl])) ht aw hb aU fp h63) h
 ·rw[cl,cl] at c6;split at c6
  ·rename_i e;subst e;injection c6 with c6;subst c6;exact⟨uc,hh⟩
  ·split at c6
   ·rename_i e;subst e;injection c6 with c6;subst c6;exact⟨YS,uW⟩
   ·cases c6
 ·simp only[lq,Bool.or_false,Bool.or_eq_true] at h;rcases h with h|h
  ·exact .inl (iF h).symm
  ·rw[<- iF h];exact .inr ⟨kx,Kh ae,uc⟩
end
end
section
set_option maxRecDepth 100000
attribute [local irreducible] cE a6 bu GStep Fn cg bf cA
def Qz (n d:Int):Prop:=0<=n/\n<=4611686018427387903 /\ -1<=d/\d<n
instance (n d:Int):Decidable (Qz n d):=inferInstanceAs (Decidable (_/\_))
def QA (d:Int):Nat:=if d<=128 then 1 else if d<=32768 then 2 else if d<=8388608 then 3 else if d<=2147483648 then 4 else 0
def vS (n d:Int):List UInt8×Int:=if ¬ Qz n d then([],6) else if QA (n - d)=0 then([],6) else(sU n.toNat (QA (n - d)),0)
def acq (r:List UInt8×Int):V:=.bN [.ro (r.1.map bm),I r.2]
def Ki (l:List UInt8):Nat:=2 ^ ((l.getD 0 default).toNat / 64)
def Eo (l:List UInt8):Nat×Nat×Int:=
 if l.length=0 then(0,0,4) else if l.length<Ki l then(0,0,4) else(Er ((l.getD 0 default).toNat % 64) ((l.take (Ki l)).drop 1),Ki l,0)
def ud (e:Int):lQ×Int×Int:=(⟨0,0,0,[],0,0⟩,0,e)
def acr (r:lQ×Int×Int):V:=.bN [.agg (Jq r.1),I r.2.1,I r.2.2]
def YT (c:Nat):Option (Int×Nat):=if 64<=c/\c<68 then some (2,c - 63) else if 192<=c/\c<196 then some (0,c - 191) else if c=240 then some (1,0) else none
def QB (K:Int) (T F:Nat) (tok:List UInt8) (S u:Nat) (l:List UInt8):lQ×Int×Int:=
 if l.length<u+S then ud 4 else(⟨K,T,F,tok,((Er 0 ((l.take (u+S)).drop u):Nat):Int),S⟩,((u+S:Nat):Int),0)
def YU (K:Int) (S:Nat) (l:List UInt8) (v:Nat×Nat×Int):lQ×Int×Int:=
 if ¬ v.2.2=0 then ud v.2.2 else if 120<v.1 then ud 1 else if l.length<3+v.2.1+v.1 then ud 4
 else QB K (l.getD 1 default).toNat (l.getD 2 default).toNat ((l.take (3+v.2.1+v.1)).drop (3+v.2.1)) S (3+v.2.1+v.1) l
def YV (K:Int) (S:Nat) (l:List UInt8):lQ×Int×Int:=
 if K=2 then(if l.length<2 then ud 4 else QB 2 (l.getD 1 default).toNat 0 [] S 2 l)
 else if l.length<3 then ud 4 else YU K S l (Eo (l.drop 3))
def acs (l:List UInt8):lQ×Int×Int:=
 if l.length=0 then ud 4 else match YT (l.getD 0 default).toNat with
  | none=>ud 2
  | some (K,S)=>YV K S l
def Kj (x:Int) (s:Nat):Int:=lo .xor .u64 x (x.fdiv (2 ^ s))
def EE (x:Int):Int:=IntKind.u64.wrap (x+11400714819323198485)
def Kk (x:Int):Int:=IntKind.u64.wrap (Kj x 30 * 13787848793156543929)
def QC (x:Int):Int:=IntKind.u64.wrap (Kj x 27 * 10723151780598845931)
def ue (x:Int):Int:=Kj (QC (Kk (EE x))) 31
def acu (s n:Int):Int:=ue (lo .xor .u64 (ue s) (IntKind.u64.wrap n))
def acv (x:Int):Nat->Int
 | 0=>x
 | 1=>EE x
 | 2=>Kk (EE x)
 | _=>QC (Kk (EE x))
def YW (key n:Int):Int:=ue (lo .xor .u64 key (ue (IntKind.u64.wrap n)))
def YX (st:Int) (q:Nat):Nat:=(ue (IntKind.u64.wrap (st+(q:Int)))).toNat
def YY (st:Int) (i:Nat):UInt8:=UInt8.ofNat (YX st (i / 8) / 256 ^ (i % 8))
def Kl (st:Int):Nat->List UInt8->List UInt8
 | _,[]=>[]
 | i,c :: r=>(c ^^^ YY st i) :: Kl st (i+1) r
def Km (key n:Int) (l:List UInt8):List UInt8:=Kl (YW key n) 0 l
def acw (st:Int) (l:List UInt8) (k:Nat):List UInt8:=(Kl st 0 l).take k++l.drop k
def YZ (h:Int) (b:List UInt8):Int:=b.foldl (fun h c=>ue (lo .xor .u64 h (c.toNat:Int))) h
def Y0 (h:Int) (b:List UInt8):Int:=ue (lo .xor .u64 (YZ h b) ((b.length * 256:Nat):Int))
def Y1 (key n:Int) (c5:List (List UInt8)):Int:=c5.foldl Y0 (lo .xor .u64 (ue key) (IntKind.u64.wrap n))
def QD (key n:Int) (c5:List (List UInt8)):List UInt8:=sU (Y1 key n c5).toNat 8
def Y2 (key n:Int) (h t:List UInt8):List UInt8:=Km key n t++QD key n [h,t]
def acx (p:List UInt8):List V:=[.ro (p.map bm)]
def acy (p:List UInt8):List V:=[.lit (.string (c7 p))]
noncomputable def acz (key n:Int) (h s:List UInt8):List UInt8×Int:=
 if s.length<8 then([],4) else if QD key n [h,Km key n (s.take (s.length - 8))]=s.drop (s.length - 8) then(Km key n (s.take (s.length - 8)),0) else([],10)
def Y3 (f:bo) (c:UInt8):List UInt8:=
 if (c.toNat:Int)=105 then mz f.Id.toNat else if (c.toNat:Int)=111 then mz f.aP.toNat else if (c.toNat:Int)=99 then mz f.Code.toNat
 else if (c.toNat:Int)=119 then sU f.Code.toNat 8 else if (c.toNat:Int)=100 then mz f.Data.length++f.Data else[]
def acA (f:bo) (s:List UInt8):List UInt8:=s.flatMap (Y3 f)
def Kn:List bo->Int
 | []=>0
 | f :: l=>if gx f≠0 then gx f else Kn l
def Ko (l:List bo):List UInt8:=l.flatMap Sq
def Bn (h:lQ) (c:List UInt8):lQ:=⟨h.Kind,h.nO,h.nP,h.oz,((Er 0 c:Nat):Int),(c.length:Int)⟩
noncomputable def acB (key:Int) (h:lQ) (n dO:Int) (l:List bo):List UInt8×Int:=
 if (vS n dO).2≠0 then([],(vS n dO).2)
 else if Lh (Bn h (vS n dO).1)≠0 then([],Lh (Bn h (vS n dO).1))
 else if Kn l≠0 then([],Kn l)
 else if 400<(Ft (Bn h (vS n dO).1)).length+(Ko l).length+8 then([],1)
 else(Ft (Bn h (vS n dO).1)++Y2 key n (Ft (Bn h (vS n dO).1)) (Ko l),0)
def acC (r:List UInt8×Int):V:=.bN [.ro (r.1.map bm),I r.2]
def acD (p:gA) (n:Int):gA×Bool×Int:=
 if lg p [n]≠0 then(⟨0,0,0,0⟩,false,lg p [n])
 else if p.bj - p.c0<n then(p,false,0)
 else(⟨p.bj,p.dy,p.c0+n,p.Since⟩,true,0)
def acE (r:gA×Bool×Int):V:=.bN [.agg (nz r.1),ab r.2.1,I r.2.2]
def acF (l:List bo):Int:=24+((Ko l).length:Int)
end
end Go.Proofs.YtendheafcbickaaGreat
