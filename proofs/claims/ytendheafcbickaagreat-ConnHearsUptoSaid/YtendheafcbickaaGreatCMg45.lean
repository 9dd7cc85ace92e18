/-
  SEVERAL TEXTS IN ONE: each with its own comment.
-/
import Derived.Test.YtendheafcbickaaGreatCMg43
import Derived.Test.YtendheafcbickaaGreatCHrU
set_option linter.unusedVariables false
set_option linter.unusedSimpArgs false
set_option maxHeartbeats 16000000
namespace Go.Proofs.YtendheafcbickaaGreat
variable {Q:Exit->Act->World->Prop} {c:aG} {hk l ops pre:List Oper} {i id m:Nat} {o:Oper} {st:aW}
section
open Go.RowKit
section
variable {P:Program} {n0:Nat}
theorem UM {a:Act} {w:World} {K qC:Act->World->Prop} {oc:Exit->Act->World->Prop} (h:∀ a w,K a w->qC a w) (hp:∀ e a w,e ≠ .normal->Q e a w->oc e a w) (hh:o.wp P a w K Q):o.wp P a w qC oc:=by
 unfold Oper.wp at *;generalize (execOp a.eval o).run P w=r at *
 cases r with
 | ok n aF=>
  cases n <;> simp only[Oper.upon] at hh ⊢ <;>
   first
    | exact h _ _ hh
    | exact Calls.mono hh (fun e Nt he=>by cases e <;> first|exact h _ _ he|exact hp _ _ _ (fun q=>by cases q) he|(obtain ⟨a,w,he⟩:=he;exact⟨a,w,hp _ _ _ (fun q=>by cases q) he⟩))
    | exact Rows.mono hh (fun _ _ he=>h _ _ he)
 | halt x aF=>cases x <;> simp only[Oper.upon] at hh ⊢ <;> first|exact hp _ _ _ (fun q=>by cases q) hh|exact hh
def tw (l:List Oper) (m:Nat):Bool:=(List.range l.length).all (fun i=>Nat.blt i m || (List.range i).all (fun j=>Nat.testBit ((nD l).getD i 0) j)) && (l.take m).all (fun o=>o.guard.isNone)
theorem Nu {j:Nat} (h:tw l m=true) (hi:i<l.length) (hm:m<=i) (ad:j<i):Nat.testBit ((nD l).getD i 0) j=true:=by
 unfold tw at h;simp only[fM,lG,List.mem_range,Bool.or_eq_true] at h;rcases h.1 i hi with J|J
 ·have:=bM J;omega
 ·exact J j ad
theorem UN (h:tw l m=true) (hi:i<m) (ae:l[i]? = some o):o.guard=none:=by
 unfold tw at h;simp only[fM,lG] at h;have:o ∈ l.take m:=by
  rw[List.mem_iff_getElem?];exact⟨i,by rw[n7,al hi];exact ae⟩
 have:=h.2 o this
 cases av:o.guard with
 | none=>rfl
 | some _=>rw[av] at this;cases this
theorem Nv (bP:ms ops=true):∀ n i,i<n -> ∀ o,ops[i]? = some o -> ∀ j,Nat.testBit ((nD ops).getD i 0) j=true->j<i:=by
 simp only[ms,fM] at bP;intro n;induction n with
 | zero=>intro i h;omega
 | succ n qD=>
  intro i cf o ae j ad;obtain ⟨aL,aS,bi⟩:=qE bP.2 i o ae;rw[fy] at aL aS;rw[aL] at ad;obtain ⟨e,he,hb,h1⟩:=tx ad;have:=aS e he hb;rcases h1 with rfl|h1
  ·exact this
  ·have gb:=(ko.1 ae).1;have:=qD e.on (by omega) ops[e.on] (eB (by omega)) j h1;omega
theorem HB (bP:ms ops=true) {e2:Array Bool} (nE:∀ i j,i<ops.length->e2.getD i false=true->Nat.testBit ((nD ops).getD i 0) j=true->e2.getD j false=true) (ae:ops[i]? = some o) (hi:∀ e ∈ o.after,Region.binds .any e=true->e2.getD e.on false=true) :
  ∀ j,Nat.testBit ((nD ops).getD i 0) j=true->e2.getD j false=true:=by
 have bW:i<ops.length:=(ko.1 ae).1;have dJ:=bP;simp only[ms,fM] at dJ;intro j ad;obtain ⟨aL,aS,bi⟩:=qE dJ.2 i o ae;rw[fy] at aL aS;rw[aL] at ad;obtain ⟨e,he,hb,h1⟩:=tx ad;have J:=hi e (by simpa using he) hb;rcases h1 with rfl|h1
 ·exact J
 ·exact nE _ _ (by have:=aS e he hb;omega) J h1
theorem xc {n:Nat} {l:Array Bool} (aw:l.size=n) (hi:i<n):l.getD i true=l.getD i false:=by
 rw[gg,gg,l2 (by omega)];rfl
theorem xd {l:Array Bool} (hi:i<l.size) (j:Nat):(l.setIfInBounds i true).getD j false=if j=i then true else l.getD j false:=by
 by_cases jV:j=i
 ·subst jV;rw[al rfl,gg,Array.getElem?_setIfInBounds_self_of_lt hi];rfl
 ·rw[ah jV,getD_set_ne false (Ne.symm jV)]
theorem UO (bP:ms ops=true) (hf:tw ops m=true):∀ (r:List Oper) (k:Nat) (a8:Array Bool) (a:Act) (w:World),m<=k->k+r.length=ops.length->(∀ j,r[j]? = ops[k+j]?)->a8.size=ops.length->(∀ i,i<ops.length->(a8.getD i false=true ↔ i<k)) ->
  wpList P ops.toArray Q r a w->wpAny P .any ops.toArray Q r.length a8 a w:=by
 intro r;induction r with
 | nil=>
  intro k a8 a w UP ag hr cZ ao h;simp only[fg] at ag;refine ⟨?_,h⟩
  cases Nw:Region.ready .any ops.toArray a8 with
  | nil=>rfl
  | cons i t=>
   exfalso;have hm:i ∈ Region.ready .any ops.toArray a8:=by rw[Nw];exact fV
   rw[mem_ready] at hm;obtain ⟨J,o,aa,_⟩:=hm;have bW:i<ops.length:=(ko.1 (by simpa using aa)).1;rw[xc cZ bW,(ao i bW).2 (by omega)] at J
   cases J
 | cons o r bU=>
  intro k a8 a w UP ag hr cZ ao h;rw[eb] at ag;have HC:ops[k]? = some o:=by have:=hr 0;simpa using this.symm
  have ca:k<ops.length:=by omega
  have nE:∀ i j,i<ops.length->a8.getD i false=true->Nat.testBit ((nD ops).getD i 0) j=true->a8.getD j false=true:=fun i j hi J aa=>by
   have:=Nv bP (i+1) i (by omega) ops[i] (eB hi) j aa;exact(ao j (by omega)).2 (by have:=(ao i hi).1 J;omega)
  have rJ:k ∈ Region.ready .any ops.toArray a8:=by
   rw[mem_ready];refine ⟨?_,o,by simpa using HC,fun e he hb=>?_⟩
   ·rw[xc cZ ca]
    cases hb:a8.getD k false with
    | false=>rfl
    | true=>have:=(ao k ca).1 hb;omega
   ·have dJ:=bP;simp only[ms,fM] at dJ;have:=(qE dJ.2 k o HC).2.1 e (by simpa using he) hb;rw[fy] at this;exact(ao e.on (by omega)).2 this
  refine ⟨fun hn=>(by rw[hn] at rJ;cases rJ),fun i hi=>?_⟩;have kW:i=k:=by
   rw[mem_ready] at hi;obtain ⟨J,fx,aa,az⟩:=hi;have aa:ops[i]? = some fx:=by simpa using aa
   have bW:i<ops.length:=(ko.1 aa).1;rw[xc cZ bW] at J;by_cases UQ:i<k
   ·rw[(ao i bW).2 UQ] at J;cases J
   ·by_cases e:i=k
    ·exact e
    ·have:=HB bP nE aa az k (Nu hf bW (by omega) (by omega));have:=(ao k ca).1 this;omega
  subst kW;have fG:∀ a w,wpList P ops.toArray Q r a w->wpAny P .any ops.toArray Q r.length (a8.setIfInBounds i true) a w:=fun a w hw=>
   bU (i+1) _ a w (by omega) (by omega) (fun j=>by have:=hr (j+1);rw[List.getElem?_cons_succ] at this;rw[this];congr 1;omega) (by simp[cZ]) (fun j ad=>by
    rw[xd (by omega)];split
    ·rename_i e;subst e;simp
    ·rename_i e;rw[ao j ad];omega) hw
  have:wpOp P ops.toArray Q i (wpList P ops.toArray Q r) a w:=by
   unfold wpOp;rw[show ops.toArray[i]? = some o by simpa using HC];exact h
  exact wpOp_mono fG this
theorem UR {C2:Exit->Act->World->Prop} (bP:ms (pre++hk)=true) (hf:tw (pre++hk) pre.length=true) (hp:∀ e a w,e ≠ .normal -> ¬ C2 e a w) (ag:∀ a w,C2 .normal a w->wpList P (pre++hk).toArray Q hk a w) :
  ∀ (iO:Nat) (us:List Nat) (rj a8:Array Bool) (a:Act) (w:World),us.length=iO->us.Nodup->(∀ i,i ∈ us ↔ (i<pre.length/\rj.getD i false=false))->rj.size=pre.length->a8.size=(pre++hk).length->(∀ i,i<pre.length->a8.getD i false=rj.getD i false)->(∀ i,pre.length<=i->a8.getD i false=false) ->
   (∀ i j,i<(pre++hk).length->a8.getD i false=true->Nat.testBit ((nD (pre++hk)).getD i 0) j=true->a8.getD j false=true) ->
   wpAny P .any pre.toArray C2 iO rj a w->wpAny P .any (pre++hk).toArray Q (iO+hk.length) a8 a w:=by
 intro iO;have hlen:(pre++hk).length=pre.length+hk.length:=eE;induction iO with
 | zero=>
  intro us rj a8 a w tz nQ mu gv y9 rk gb nE h;have pL:us=[]:=pj tz;rw[fy];refine UO bP hf hk pre.length a8 a w (e4 _) (by omega) (fun j=>by rw[sg (by omega),Nat.add_sub_cancel_left]) y9 (fun i hi=>?_) (ag a w h.2);by_cases pM:i<pre.length
  ·refine ⟨fun _=>pM,fun _=>?_⟩;rw[rk i pM]
   cases hb:rj.getD i false with
   | true=>rfl
   | false=>have:=(mu i).2 ⟨pM,hb⟩;rw[pL] at this;cases this
  ·rw[gb i (by omega)];exact⟨(fun h=>by cases h),fun h=>absurd h pM⟩
 | succ iO bU=>
  intro us rj a8 a w tz nQ mu gv y9 rk gb nE h;have abQ:=Nv bP;have dJ:=bP;simp only[ms,fM] at dJ;obtain ⟨u,hu⟩:∃ u,u ∈ us:=by
   cases us with
   | nil=>simp at tz
   | cons u r=>exact⟨u,fV⟩
  have mv:=(mu u).1 hu;rw[show iO+1+hk.length=(iO+hk.length)+1 by omega];refine ⟨fun hn=>?_,fun i hi=>?_⟩
  ·exfalso;have im:∀ n i,i<n->i<pre.length->a8.getD i false=true:=by
    intro n;induction n with
    | zero=>intro i h;omega
    | succ n qD=>
     intro i cf jL
     cases hb:a8.getD i false with
     | true=>rfl
     | false=>
      exfalso;have HD:i<(pre++hk).length:=by omega
      have:i ∈ Region.ready .any (pre++hk).toArray a8:=by
       rw[mem_ready];refine ⟨by rw[xc y9 HD];exact hb,(pre++hk)[i],by rw[List.getElem?_toArray,eB HD],fun e he xe=>?_⟩;have:=(qE dJ.2 i _ (eB HD)).2.1 e (by simpa using he) xe;rw[fy] at this;exact qD e.on (by omega) (by omega)
      rw[hn] at this;cases this
   have:=im (u+1) u (by omega) mv.1;rw[rk u mv.1,mv.2] at this;cases this
  ·have oJ:=hi;rw[mem_ready] at hi;obtain ⟨J,o,aa,az⟩:=hi;have aa:(pre++hk)[i]? = some o:=by simpa using aa
   have bW:i<(pre++hk).length:=(ko.1 aa).1;rw[xc y9 bW] at J;have pM:i<pre.length:=by
    by_cases pM:i<pre.length
    ·exact pM
    ·have:=HB bP nE aa az u (Nu hf bW (by omega) (by omega));rw[rk u mv.1,mv.2] at this;cases this
   have Nx:pre[i]? = some o:=by rw[sh pM] at aa;exact aa
   have Ny:rj.getD i false=false:=by rw[<- rk i pM];exact J
   have US:i ∈ Region.ready .any pre.toArray rj:=by
    rw[mem_ready];refine ⟨by rw[xc gv pM];exact Ny,o,by simpa using Nx,fun e he xe=>?_⟩;have:=(qE dJ.2 i _ aa).2.1 e (by simpa using he) xe;rw[fy] at this;rw[<- rk e.on (by omega)];exact az e he xe
   have hw:=h.2 i US;have UT:=UN hf pM aa;have xf:=HB bP nE aa az;have UU:∀ a w,wpAny P .any pre.toArray C2 iO (rj.setIfInBounds i true) a w->wpAny P .any (pre++hk).toArray Q (iO+hk.length) (a8.setIfInBounds i true) a w:=fun a w hw=>
    bU (us.erase i) _ _ a w (by have:i ∈ us:=(mu i).2 ⟨pM,Ny⟩;rw[List.length_erase_of_mem this];omega) (nQ.erase i) (fun j=>by
     rw[nQ.mem_erase_iff,mu,xd (by omega)];constructor
     ·rintro ⟨bB,de,fJ⟩;rw[ah bB];exact⟨de,fJ⟩
     ·rintro ⟨de,fJ⟩;split at fJ
      ·cases fJ
      ·rename_i bB;exact⟨bB,de,fJ⟩) (by simp[gv]) (by simp[y9]) (fun j ad=>by rw[xd (by omega),xd (by omega)];split;rfl;exact rk j ad)
     (fun j ad=>by rw[xd (by omega),ah (by omega)];exact gb j ad) (fun j k ad g1 g2=>by
      rw[xd (by omega)] at g1 ⊢;split
      ·rfl
      ·split at g1
       ·rename_i e;subst e;exact xf k g2
       ·exact nE j k ad g1 g2) hw
   unfold wpOp at hw ⊢;rw[show pre.toArray[i]? = some o by simpa using Nx] at hw;rw[show(pre++hk).toArray[i]? = some o by simpa using aa];have UW:∀ y,Region.wanted o y=true:=fun y=>by unfold Region.wanted;rw[UT]
   dsimp only at hw ⊢;rw[al (UW _)] at hw ⊢;rcases hw with hw | ⟨_,hx,aF,ao⟩
   ·exact .inl (UM UU (fun e a w he hq=>absurd hq (hp e a w he)) hw)
   ·exact absurd ao (hp _ _ _ (fun e=>by cases e))
theorem UX {Q:Exit->aW->Prop} (pre hk:List Oper) (h:bf P st.af st.next pre (fun _ _=>false) st.next pre st.env st.heap (fun bq=>a6 P n0 (pre++hk).toArray hk bq (Q .normal))) (ao:l=pre++hk:=by rfl) (hm:P.follows .mixedOrders=true:=by kernel_rfl) (bP:ms (pre++hk)=true:=by kernel_rfl) (HE:ms pre=true:=by kernel_rfl) (hf:tw (pre++hk) pre.length=true:=by kernel_rfl) (hn0:Nat.ble n0 st.next=true:=by kernel_rfl) :
    cE P n0 (.region id l.toArray true) st Q:=fun F base w0 ρ a w hH ax=>by
  subst ao;obtain ⟨fA,jW,dX,_,_,az,bk⟩:=h;rw[ra] at az;have hn0:=bM hn0;have mw:∀ n i,(Array.replicate n false).getD i false=false:=fun n i=>by
    rw[gg,Array.getElem?_replicate];split <;> rfl
  have aI:jC (pre.zip fA) 0 (fun i=>(Array.replicate pre.length false).getD i false) st.env=st.env:=C3 _ _ _ _ (fun j=>mw _ _);have a7:jD (pre.zip fA) 0 (fun i=>(Array.replicate pre.length false).getD i false) st.heap=st.heap:=za _ _ _ _ (fun j=>mw _ _);have dc:dl (bs F ρ st.heap) w { w with drawn:=w.drawn+1 }:=fun b _ _=>rfl
  have rl:eA F base ρ st.heap (st.next+pre.length) w0 { w with drawn:=w.drawn+1 }:=
    ⟨⟨⟨hH.below.os, hH.below.tape, hH.below.output, hH.below.size, hH.below.block⟩, hH.fl, fun id u h => ⟨Nat.lt_of_lt_of_le (hH.sup id u h).1 (Nat.le_add_right _ _), (hH.sup id u h).2⟩, hH.inj,
      fun id B an=>(hH.cJ id B an).mono dc (fun b h _=>h) (fun _ _ h=>h) (fun _ _ _ _ _ _=>rfl)⟩,hH.dX⟩
  have qA:=ax.mono dc (fun b h _=>h) (fun _ _ h=>h);have ar:=Nz (n0:=n0) HE az hn0 (F:=F) (M:=base) (w0:=w0) (ρ0:=ρ) pre.length (List.range pre.length) (Array.replicate pre.length false) a { w with drawn:=w.drawn+1 } ρ (by simp) List.nodup_range
    (fun i=>by rw[mw];simp) (by simp) (fun i j h=>by rw[mw] at h;cases h) (by rw[a7];exact rl) (by rw[aI,a7];exact qA) (fun _ _=>rfl)
    (fun i hi _=>by
      cases ff:ρ (st.next+i) with
      | none=>rfl
      | some u=>have:=(hH.sup _ _ ff).1;omega)
  have:=UR (Q:=kV n0 F base w0 ρ Q) bP hf (fun e a w he hq=>by obtain ⟨bl,dP,⟨rfl,_⟩,_⟩:=hq;exact he rfl) (fun a w hq=>by
      obtain ⟨bl,dP,⟨_,rfl⟩,aL,aS,bi⟩:=hq;have:=bk F base w0 bl a w aL aS
      exact u7 (fun e a w ar=>kV.trans bi (kV.mono (fun e st h=>by obtain ⟨rfl,h⟩:=h;exact h) ar)) _ _ _ this)
    pre.length (List.range pre.length) (Array.replicate pre.length false) (Array.replicate (pre++hk).length false) a { w with drawn:=w.drawn+1 } (by simp) List.nodup_range (fun i=>by rw[mw];simp) (by simp) (by simp) (fun i _=>by rw[mw,mw]) (fun i _=>mw _ _) (fun i j _ h=>by rw[mw] at h;cases h) ar
  refine wp_region_any hm ?_;simpa[eE] using this
end
end
section
set_option maxRecDepth 100000
attribute [local irreducible] cE a6 bu GStep Fn cg bf cA
def yy (r:aG×Bool×Int):V:=.bN [.agg (cj r.1),ab r.2.1,I r.2.2]
theorem HF {P:Program} {n0:Nat} {Q:Exit->aW->Prop} (m:Nat) (ar:l.take m=pre:=by(simp only[List.take_succ_cons,List.take_zero];rfl)) (aw:l.drop m=hk:=by(simp only[List.drop_succ_cons,List.drop_zero];rfl)) (h:bf P st.af st.next pre (fun _ _=>false) st.next pre st.env st.heap (fun bq=>a6 P n0 (pre++hk).toArray hk bq (Q .normal))) (hm:P.follows .mixedOrders=true:=by kernel_rfl) (bP:ms (pre++hk)=true:=by kernel_rfl) (HE:ms pre=true:=by kernel_rfl) (hf:tw (pre++hk) pre.length=true:=by kernel_rfl) (hn0:Nat.ble n0 st.next=true:=by kernel_rfl) :
  cE P n0 (.region id l.toArray true) st Q:=UX pre hk h (by rw[<- ar,<- aw,List.take_append_drop]) hm bP HE hf hn0
theorem NA {P:Program} {n0:Nat} {TL TB:TypeId} (a k:Nat) (ao:c.aq.length<=4) (abR:a<k\/k+3<a) (U:aM st.heap a=some (.ch TL 16 (cM k c.aq))) (ai:aM st.heap k=some (.row TB 1 (bV c 0))) (J:aM st.heap (k+1)=some (.row TB 1 (bV c 1))) (aa:aM st.heap (k+2)=some (.row TB 1 (bV c 2))) (az:aM st.heap (k+3)=some (.row TB 1 (bV c 3))) :
  cg P n0 st { st with heap:=(a,some (.row TL 16 (c.aq.map eo))) :: (a,some (.ch TL 16 (c.aq.map eo))) :: (k+3,some (.dY (bV c 3))) :: (k+2,some (.dY (bV c 2))) :: (k+1,some (.dY (bV c 1))) :: (k,some (.dY (bV c 0))) :: st.heap }:=by
 have g:∀ (i j:Nat) (B:Option aT) (H:List (Nat×Option aT)),i≠j->aM ((i,B) :: H) j=aM H j:=fun i j B H h=>by rw[cl,ah h]
 have va:=oB (P:=P) (n0:=n0) (st:=st) ai;have aI:=oB (P:=P) (n0:=n0) (st:={ st with heap:=(k,some (.dY (bV c 0))) :: st.heap }) (id:=k+1) (by rw[g _ _ _ _ (by omega)];exact J);have a7:=oB (P:=P) (n0:=n0) (st:={ st with heap:=(k+1,some (.dY (bV c 1))) :: (k,some (.dY (bV c 0))) :: st.heap }) (id:=k+2) (by rw[g _ _ _ _ (by omega),g _ _ _ _ (by omega)];exact aa);have cC:=oB (P:=P) (n0:=n0) (st:={ st with heap:=(k+2,some (.dY (bV c 2))) :: (k+1,some (.dY (bV c 1))) :: (k,some (.dY (bV c 0))) :: st.heap }) (id:=k+3) (by rw[g _ _ _ _ (by omega),g _ _ _ _ (by omega),g _ _ _ _ (by omega)];exact az);have f:∀ i,i<4->aM ((k+3,some (.dY (bV c 3))) :: (k+2,some (.dY (bV c 2))) :: (k+1,some (.dY (bV c 1))) :: (k,some (.dY (bV c 0))) :: st.heap) (k+i)=some (.dY (bV c i)):=fun i hi=>by
  rcases (show i=0\/i=1\/i=2\/i=3 by omega) with rfl|rfl|rfl|rfl
  ·rw[g _ _ _ _ (by omega),g _ _ _ _ (by omega),g _ _ _ _ (by omega),cl,al (by omega)]
  ·rw[g _ _ _ _ (by omega),g _ _ _ _ (by omega),cl,al rfl]
  ·rw[g _ _ _ _ (by omega),cl,al rfl]
  ·rw[cl,al rfl]
 have yT:aM ((k+3,some (.dY (bV c 3))) :: (k+2,some (.dY (bV c 2))) :: (k+1,some (.dY (bV c 1))) :: (k,some (.dY (bV c 0))) :: st.heap) a=some (.ch TL 16 (cM k c.aq)):=by
  rw[g _ _ _ _ (by omega),g _ _ _ _ (by omega),g _ _ _ _ (by omega),g _ _ _ _ (by omega)];exact U
 have eI:=NB (P:=P) (n0:=n0) (st:={ st with heap:=(k+3,some (.dY (bV c 3))) :: (k+2,some (.dY (bV c 2))) :: (k+1,some (.dY (bV c 1))) :: (k,some (.dY (bV c 0))) :: st.heap }) (dW:=c.aq.map eo) yT
  (by rw[ll,bY]) (fun i hi=>by
   rw[ll] at hi;rw[vb hi,gV eo hi];rfl) (fun i j hi ad=>by
   rw[ll] at hi;rw[vb hi,gV eo hi];by_cases dG:j=5
   ·subst dG;refine .inr ⟨k+i,bV c i,rfl,f i (by omega),?_⟩;rw[NC hi];rfl
   ·refine .inl ?_;rw[G4 _ _ _ _ (show j<16 from ad),ah dG];have UY:j<16:=ad
    match j,UY,dG with
    | 0,_,_|1,_,_|2,_,_|3,_,_|4,_,_|6,_,_|7,_,_|8,_,_|9,_,_|10,_,_|11,_,_|12,_,_|13,_,_|14,_,_|15,_,_=>rfl
    | 5,_,h=>exact absurd rfl h
    | n+16,h,_=>omega)
 have fZ:=wu (P:=P) (n0:=n0) (st:={ st with heap:=(a,some (.ch TL 16 (c.aq.map eo))) :: (k+3,some (.dY (bV c 3))) :: (k+2,some (.dY (bV c 2))) :: (k+1,some (.dY (bV c 1))) :: (k,some (.dY (bV c 0))) :: st.heap }) (id:=a) (e:=TL) (s:=16) (l:=c.aq.map eo) (by rw[cl,al rfl]) (fun i j hi ad=>by
   rw[bY] at hi;rw[gV eo hi]
   match j,ad with
   | 0,_|1,_|2,_|3,_|4,_|5,_|6,_|7,_|8,_|9,_|10,_|11,_|12,_|13,_|14,_|15,_=>rfl
   | n+16,h=>omega)
 exact va.trans (aI.trans (a7.trans (cC.trans (eI.trans fZ))))
def iq (c C:aG):Prop:=C.dT=c.dT/\C.fj=c.fj
theorem iq.refl (c:aG):iq c c:=⟨rfl,rfl⟩
theorem iq.trans {a b:aG} (h:iq a b) (g:iq b c):iq a c:=⟨g.1.trans h.1,g.2.trans h.2⟩
theorem ND (id:Int):∀ (m:Nat) (c:aG),iq c (lh m c id).1
 | 0,c=>⟨rfl,rfl⟩
 | m+1,c=>by
  unfold lh;split
  ·exact iq.trans (b:=kJ c) ⟨rfl,rfl⟩ (ND id m _)
  ·exact⟨rfl,rfl⟩
theorem HG (c:aG) (id:Int):iq c (eV c id).1:=by
 unfold eV;split
 ·exact⟨rfl,rfl⟩
 ·split
  ·exact⟨rfl,rfl⟩
  ·exact ND _ _ _
theorem C4 {g:aG->Nat->bo->aG×Int} (av:∀ c n f,iq c (g c n f).1) (c:aG) (f:bo):iq c (iU g c f).1:=by
 unfold iU;split
 ·split
  ·exact(HG c f.Id).trans (av _ _ _)
  ·exact HG c f.Id
 ·exact HG c f.Id
theorem UZ (c:aG) (n:Nat) (f:bo):iq c (rf c n f).1:=by
 unfold rf;split
 ·exact⟨rfl,rfl⟩
 ·split
  ·exact⟨rfl,rfl⟩
  ·split
   ·exact⟨rfl,rfl⟩
   ·split <;> exact⟨rfl,rfl⟩
theorem U0 (c:aG) (n:Nat) (f:bo):iq c (oD c n f).1:=by
 unfold oD;split
 ·exact⟨rfl,rfl⟩
 ·split
  ·exact⟨rfl,rfl⟩
  ·split
   ·exact⟨rfl,rfl⟩
   ·split
    ·exact⟨rfl,rfl⟩
    ·split <;> exact⟨rfl,rfl⟩
theorem U1 (c:aG) (n:Nat) (f:bo):iq c (p4 c n f).1:=by
 unfold p4;split <;> exact⟨rfl,rfl⟩
theorem U2 (c:aG) (n:Nat) (f:bo):iq c (p7 c n f).1:=by
 unfold p7;split <;> exact⟨rfl,rfl⟩
theorem NE (c:aG) (x:bo):iq c (ny c x).1:=by
 unfold ny;split
 ·split <;> exact⟨rfl,rfl⟩
 ·exact⟨rfl,rfl⟩
theorem NF:∀ (l:List bo) (c:aG),iq c (kv c l).1
 | [],c=>⟨rfl,rfl⟩
 | f :: l,c=>by
  unfold kv;split
  ·exact(NE c f).trans (NF l _)
  ·exact NE c f
theorem HH:∀ (l:List eN) (c:aG),iq c (kQ c l).1
 | [],c=>⟨rfl,rfl⟩
 | p :: l,c=>by
  have h:iq c (kv (kL c (r9 c p)) p.Frames).1:=iq.trans (b:=kL c (r9 c p)) ⟨rfl,rfl⟩ (NF _ _);unfold kQ;split
  ·exact h.trans (HH l _)
  ·exact h
theorem NG:∀ (l:List bo) (c:aG),iq c (j7 c l).1
 | [],c=>⟨rfl,rfl⟩
 | f :: l,c=>by
  unfold j7;split
  ·exact iq.trans (b:=ml c (iV c f).1 (iV c f).2.1) ⟨rfl,rfl⟩ (NG l _)
  ·exact⟨rfl,rfl⟩
theorem NH {now:Int}:∀ (l:List eN) (c:aG),iq c (jN now c l).1
 | [],c=>⟨rfl,rfl⟩
 | p :: l,c=>by
  have h:iq c (j7 (kL c (rT c p now)) p.Frames).1:=iq.trans (b:=kL c (rT c p now)) ⟨rfl,rfl⟩ (NG _ _);unfold jN;split
  ·exact h.trans (NH l _)
  ·exact h
theorem U3 (c:aG) (f:bo) (now:Int):iq c (qt c f now).1:=by
 have ai:∀ s,iq c (iy c s):=fun s=>⟨rfl,rfl⟩
 unfold qt;split
 ·split
  ·exact(ai _).trans ((HH _ _).trans (NH _ _))
  ·exact(ai _).trans (HH _ _)
 ·exact⟨rfl,rfl⟩
theorem L9 (c:aG) (f:bo) (now:Int) (hs:f.Kind≠28):iq c (gY c f now).1:=by
 unfold gY;split
 ·exact U3 _ _ _
 ·split
  ·exact C4 UZ c f
  ·split
   ·exact C4 U0 c f
   ·split
    ·exact C4 U1 c f
    ·split
     ·exact⟨rfl,rfl⟩
     ·split
      ·exact C4 U2 c f
      ·split
       ·dsimp only;split <;> exact⟨rfl,rfl⟩
       ·split
        ·exact⟨rfl,rfl⟩
        ·first
         | exact⟨rfl,rfl⟩
         | (rw[ah hs];exact⟨rfl,rfl⟩)
theorem Gd (s:ey) (n:Int) (hw:bT.gM s):bT.gM (km s n).1:=by
 have aU:bT.gM CO:=by unfold bT.gM CO;simp[aE]
 unfold km;split
 ·exact aU
 ·split
  ·exact aU
  ·split
   ·exact hw
   ·obtain ⟨c4,du,w3,e9,fa,gy,hL,ki⟩:=hw;rename_i g0 g1 g2;have bP:gi s.cD=0/\s.cD.length<=6:=by
     rcases r8 s with⟨ai,ae⟩ | ⟨ai,ae⟩
     ·have:=ae.1.1;unfold ku at this;exact⟨by simp_all,by omega⟩
     ·omega
    have hr:b9 ⟨n,n⟩:=by unfold b9;dsimp only;omega
    have aw:=qF bP.1;have hn:oa s.cD n=((hy s.cD ⟨n,n⟩).drop ((hy s.cD ⟨n,n⟩).length - 6),!(yes (eY s.cD n)),0):=by
     have e:hF s.cD ⟨n,n⟩=0:=by unfold hF;rw[bP.1,ah (by decide),al hr]
     unfold oa;rw[ah (by omega)]
    rw[hn];have dC:=zb aw hr (by unfold b9 at hr;omega);refine ⟨c4,du,w3,e9,?_,fun y aj=>wf_set dC y (List.mem_of_mem_drop aj),hL,ki⟩;have:=wY s.cD ⟨n,n⟩;dsimp only;rw[mJ];omega
theorem Ck:∀ {l:List bo},oM l=0 -> ∀ f ∈ l,gx f=0
 | [],_,f,h=>by cases h
 | g :: l,h,f,hf=>by
  unfold oM at h;split at h
  ·rename_i ai;rcases hX.1 hf with rfl|hf
   ·exact ai
   ·exact Ck h f hf
  ·rename_i ai;exact absurd h ai
theorem L7 (f:bo) (l:List bo):oM (f :: l)=if gx f=0 then oM l else gx f:=rfl
theorem L8 (now:Int) (c:aG) (f:bo) (l:List bo):kN now c (f :: l)=if (gY (iW c (c.fT || oN f.Kind)) f now).2=0/\(gY (iW c (c.fT || oN f.Kind)) f now).1.fj=false then kN now (gY (iW c (c.fT || oN f.Kind)) f now).1 l else gY (iW c (c.fT || oN f.Kind)) f now:=rfl
theorem U4 {B:Nat} (c:aG) (now number:Int) (l:List bo) (hw:fw c) (lv:nj c=0->c3 c/\cK B c) (an:B+1440<=16777216) (il:∀ f ∈ l,dx f) (hK:l.length<=1048576) :
  Fn Tryz.prog 22 [.agg (cj c),I now,I number,.ro (l.map aO)] (yy (uS c now number l)):=by
 have J:=U5 c hw;unfold uS yy;generalize Cj:nj c=yz at *;by_cases ai:yz=0
 ·subst ai;rw[al rfl];obtain ⟨eG,cw⟩:=lv rfl;by_cases hn:0<=now/\now<=1099511627776/\l.length<=12
  ·rw[al hn];generalize ax:oM l=E;generalize ap:(if E=0 then(if c.fj=true then(default,false,17) else if (km c.aQ number).2.2≠0 then(default,false,(km c.aQ number).2.2) else if (km c.aQ number).2.1=false then(c,false,0) else(uT (nZ (iy c (km c.aQ number).1) (max now c.dT)) (max now c.dT) l,true,0)) else(default,false,E):aG×Bool×Int)=R;refine aH Tryz.func22 ?_;(refine bH J ?_;and_intros <;> intros)
   all_goals try (exfalso;omega)
   refine cv (fun k:Nat=>⟨[(1,I now),(2,I number),(3,.ro (l.map aO)),(4,.ptr 0 0 0 0),(8,.ptr 1 0 0 0),(9,ab false),(10,I 0),(39,.ro (l.map aO)),(40,I l.length),(41,I k)],[(0,some (.box 51 (cj c))),(1,some (.box 51 [ab false,I 0,aX,I 0,aX,aX,I 0,I 0,I 0,I 0,I 0,I 0,I 0,I 0,I 0,I 0,I 0,aX,ab false,aX,I 0,I 0,ab false,I 0]))],2,Tryz.f22.ntmps⟩)
    (fun k=>k<=l.length/\oM (l.drop k)=E) (fun k=>l.length - k) 0 ⟨cm _,ax⟩ fP ?_
   rintro k ⟨ag,mm⟩;by_cases au:k<l.length
   ·have hf:=il _ (cc au);have az:=F6 (l.getD k default) hf;rw[drop_cons au,L7] at mm;clear il hf eG cw lv hw ax;generalize gx (l.getD k default)=Ge at *;by_cases hff:Ge=0
    ·subst hff;rw[al rfl] at mm;clear ap;(refine bH az ?_;and_intros <;> intros)
     all_goals first
      | (exact⟨k+1,(by omega),⟨au,mm⟩,ba⟩)
      | (exfalso;omega)
      | skip
    ·rw[ah hff] at mm;subst mm;rw[ah hff] at ap;subst ap;(refine bH az ?_;and_intros <;> intros)
     all_goals first|exact dA|skip
   ·have ca:k=l.length:=by omega
    subst ca;rw[iJ] at mm;unfold oM at mm;subst mm;rw[al rfl] at ap;have im:=Ck ax;clear ax
    cases e7:c.fj
    ·rw[e7,ah iS] at ap;have vc:=U6 c hw cw.eg;have hH:=Ue c.aQ number hw.1;have rY:=Gd c.aQ number eG.sp;generalize km c.aQ number=S at *;obtain ⟨s2,Gf,uG⟩:=S;unfold wG at hH;have HI:=cw.eg;dsimp only at *;by_cases s9:uG=0
     ·subst s9;rw[ah (fun h=>h rfl)] at ap
      cases Gf
      ·rw[al rfl] at ap;subst ap;dsimp only;clear lv eG cw il im hw;unfold a1 at vc;(repeat' first|(refine dL [] (vc) (hh:=kc) (hH:=HJ) (h:=?_))|refine bh hH ?_|(refine ng ?_ ?_;(exact HK))|(refine fI 20 ?_;(and_intros <;> intros))|fail)
       all_goals try (exfalso;omega)
       refine gH (NA 2 4 HI (.inl (by omega)) rfl rfl rfl rfl rfl) ?_;(try refine ay ?_;and_intros <;> intros)
       all_goals first|exact fq|skip
      ·rw[ah Bool.noConfusion] at ap;have To:=hn.2.2;have bW:0<=max now c.dT/\max now c.dT<=1099511627776:=by have:=eG.a8;rw[Int.max_def];split <;> omega
       have n1:c3 (nZ (iy c s2) (max now c.dT)):=⟨eG.op,eG.jf,eG.id,eG.dv,eG.mg,rY,eG.lC,bW,eG.h7,eG.n2⟩;have n3:cK B (nZ (iy c s2) (max now c.dT)):=⟨cw.eg,cw.lD,cw.gK,cw.iK,cw.nn⟩;have wJ:(nZ (iy c s2) (max now c.dT)).fj=false:=e7;have hU:(nZ (iy c s2) (max now c.dT)).dT=max now c.dT:=rfl;generalize yA:max now c.dT=lt at *;have nf:=NI l il (by omega);unfold a1 at vc;(repeat' first|(refine dL [] (vc) (hh:=kc) (hH:=HJ) (h:=?_))|refine bh hH ?_|refine bh nf ?_|(refine ng ?_ ?_;(exact HK))|(refine ay ?_;(and_intros <;> intros))|fail)
       all_goals try (exfalso;omega)
       rw[yA];generalize aU:nZ (iy c s2) lt=z at *;unfold uT at ap;generalize aY:kN lt z l=T at ap;obtain ⟨C,e⟩:=T;dsimp only at ap;subst aU;refine cv (fun x:Nat×aG=>⟨[(15,.ptr 8 0 0 0),(8,.ptr 1 0 0 0),(9,ab false),(10,I 0),(18,I 0),(97,.ro (l.map aO)),(98,I l.length),(99,I x.1)],[(1,some (.box 51 [ab false,I 0,aX,I 0,aX,aX,I 0,I 0,I 0,I 0,I 0,I 0,I 0,I 0,I 0,I 0,I 0,aX,ab false,aX,I 0,I 0,ab false,I 0])),(8,some (.box 116 [ab x.2.Client,I x.2.aQ.Next,.ro (x.2.aQ.aR.map bC),I x.2.aQ.c9,.ro (x.2.aQ.cD.map aB),.ro (x.2.aQ.bI.map encI),I x.2.cy.bj,I x.2.cy.dy,I x.2.cy.c0,I x.2.cy.Since,I x.2.di.Max,I x.2.di.bG,I x.2.eh.Max,I x.2.eh.bG,I x.2.gQ,I x.2.gR,I x.2.cN,.own 2,ab x.2.fT,.own 3,I x.2.dT,I x.2.gP,ab x.2.fj,I x.2.Code])),(2,some (.ch 134 16 (cM 4 x.2.aq))),(3,some (.row 111 7 (x.2.Queue.map aO))),(4,some (.row 5 1 (bV x.2 0))),(5,some (.row 5 1 (bV x.2 1))),(6,some (.row 5 1 (bV x.2 2))),(7,some (.row 5 1 (bV x.2 3)))],9,Tryz.f22.ntmps⟩) (fun x=>x.1<=l.length/\c3 x.2/\cK (B+120 * x.1) x.2/\x.2.fj=false/\x.2.dT=lt/\kN lt x.2 (l.drop x.1)=(C,e)) (fun x=>l.length - x.1) (0,nZ (iy c s2) lt) ⟨cm _,n1,n3,wJ,hU,aY⟩
        (jG [(1,1),(2,2),(3,3),(4,4),(5,5),(6,6),(7,7),(8,8)] rfl jH ⟨b2 (.inl rfl),⟨b2 (.inl rfl),⟨(lI rfl lJ (fun i hi=>(by rw[bY] at hi;replace hi:i<c.aq.length:=hi;rcases (show i=0\/i=1\/i=2\/i=3 by omega) with rfl|rfl|rfl|rfl <;> rfl))),⟨b2 (.inl rfl),⟨b2 (.inl rfl),⟨b2 (.inl rfl),⟨b2 (.inl rfl),⟨b2 (.inl rfl),trivial⟩⟩⟩⟩⟩⟩⟩⟩ rfl) ?_
       clear aY n1 n3 wJ hU eG cw lv hw J vc hH e7 rY Cj HI hn yA nf;rintro ⟨k,d⟩ ⟨ag,eG,cw,e7,wF,aY⟩;dsimp only at *;have HI:=cw.eg;by_cases au:k<l.length
       ·have hf:=il _ (cc au);have px:=im _ (cc au);have wH:=Gg px;have qg:=sX px;rw[drop_cons au,L8] at aY;obtain ⟨gl,mn⟩:∃ gl,gl=(d.fT || oN (l.getD k default).Kind):=⟨_,rfl⟩;(repeat' first|(refine fI 25 ?_;(and_intros <;> intros))|fail)
        all_goals try (exfalso;omega)
        refine je (fun gl:Bool=>⟨[(15,.ptr 8 0 0 0),(8,.ptr 1 0 0 0),(9,ab false),(10,I 0),(18,I 0),(97,.ro (l.map aO)),(98,I l.length),(99,I k),(20,.ptr 9 0 0 0)],[(1,some (.box 51 [ab false,I 0,aX,I 0,aX,aX,I 0,I 0,I 0,I 0,I 0,I 0,I 0,I 0,I 0,I 0,I 0,aX,ab false,aX,I 0,I 0,ab false,I 0])),(8,some (.box 116 [ab d.Client,I d.aQ.Next,.ro (d.aQ.aR.map bC),I d.aQ.c9,.ro (d.aQ.cD.map aB),.ro (d.aQ.bI.map encI),I d.cy.bj,I d.cy.dy,I d.cy.c0,I d.cy.Since,I d.di.Max,I d.di.bG,I d.eh.Max,I d.eh.bG,I d.gQ,I d.gR,I d.cN,.own 2,ab gl,.own 3,I d.dT,I d.gP,ab d.fj,I d.Code])),(2,some (.ch 134 16 (cM 4 d.aq))),(3,some (.row 111 7 (d.Queue.map aO))),(4,some (.row 5 1 (bV d 0))),(5,some (.row 5 1 (bV d 1))),(6,some (.row 5 1 (bV d 2))),(7,some (.row 5 1 (bV d 3))),(9,some (.box 111 (aO (l.getD k default))))],10,Tryz.f22.ntmps⟩) (fun x=>x=gl) ?_ ?_
        ·clear aY ap;have aI:d.fT=true->gl=true:=fun h=>by rw[mn,h,Bool.true_or]
         have a7:d.fT=false->(l.getD k default).Kind=2->gl=false:=fun h de=>by rw[mn,h,de];decide
         have cC:d.fT=false->(l.getD k default).Kind=0->gl=false:=fun h de=>by rw[mn,h,de];decide
         have eI:d.fT=false->(l.getD k default).Kind=28->gl=false:=fun h de=>by rw[mn,h,de];decide
         have fZ:d.fT=false -> ¬ (l.getD k default).Kind=2 -> ¬ (l.getD k default).Kind=0 -> ¬ (l.getD k default).Kind=28->gl=true:=fun h de eW hs=>by
          rw[mn,h];unfold oN;rw[decide_eq_true de,decide_eq_true eW,decide_eq_true hs];rfl
         clear mn
         cases hb:d.fT
         ·by_cases de:(l.getD k default).Kind=2
          ·obtain rfl:=a7 hb de;clear aI a7 cC eI fZ;(try refine ay ?_;and_intros <;> intros)
           all_goals first
            | (refine ⟨false,rfl,?_⟩;(exact jG [(1,1),(8,8),(2,2),(3,3),(4,4),(5,5),(6,6),(7,7),(9,9)] rfl jH ⟨b2 (.inl rfl),⟨b2 (.inl rfl),⟨(lI rfl lJ (fun i hi=>zc)),⟨b2 (.inl rfl),⟨b2 (.inl rfl),⟨b2 (.inl rfl),⟨b2 (.inl rfl),⟨b2 (.inl rfl),⟨b2 (.inl rfl),trivial⟩⟩⟩⟩⟩⟩⟩⟩⟩ rfl))
            | (exfalso;omega)
            | skip
          ·by_cases eW:(l.getD k default).Kind=0
           ·obtain rfl:=cC hb eW;clear aI a7 cC eI fZ;(try refine ay ?_;and_intros <;> intros)
            all_goals first
             | (refine ⟨false,rfl,?_⟩;(exact jG [(1,1),(8,8),(2,2),(3,3),(4,4),(5,5),(6,6),(7,7),(9,9)] rfl jH ⟨b2 (.inl rfl),⟨b2 (.inl rfl),⟨(lI rfl lJ (fun i hi=>zc)),⟨b2 (.inl rfl),⟨b2 (.inl rfl),⟨b2 (.inl rfl),⟨b2 (.inl rfl),⟨b2 (.inl rfl),⟨b2 (.inl rfl),trivial⟩⟩⟩⟩⟩⟩⟩⟩⟩ rfl))
             | (exfalso;omega)
             | skip
           ·by_cases hs:(l.getD k default).Kind=28
            ·obtain rfl:=eI hb hs;clear aI a7 cC eI fZ;(try refine ay ?_;and_intros <;> intros)
             all_goals first
              | (refine ⟨false,rfl,?_⟩;(exact jG [(1,1),(8,8),(2,2),(3,3),(4,4),(5,5),(6,6),(7,7),(9,9)] rfl jH ⟨b2 (.inl rfl),⟨b2 (.inl rfl),⟨(lI rfl lJ (fun i hi=>zc)),⟨b2 (.inl rfl),⟨b2 (.inl rfl),⟨b2 (.inl rfl),⟨b2 (.inl rfl),⟨b2 (.inl rfl),⟨b2 (.inl rfl),trivial⟩⟩⟩⟩⟩⟩⟩⟩⟩ rfl))
              | (exfalso;omega)
              | skip
            ·obtain rfl:=fZ hb de eW hs;clear aI a7 cC eI fZ;(try refine ay ?_;and_intros <;> intros)
             all_goals first
              | (refine ⟨true,rfl,?_⟩;(exact jG [(1,1),(8,8),(2,2),(3,3),(4,4),(5,5),(6,6),(7,7),(9,9)] rfl jH ⟨b2 (.inl rfl),⟨b2 (.inl rfl),⟨(lI rfl lJ (fun i hi=>zc)),⟨b2 (.inl rfl),⟨b2 (.inl rfl),⟨b2 (.inl rfl),⟨b2 (.inl rfl),⟨b2 (.inl rfl),⟨b2 (.inl rfl),trivial⟩⟩⟩⟩⟩⟩⟩⟩⟩ rfl))
              | (exfalso;omega)
              | skip
         ·obtain rfl:=aI hb;clear aI a7 cC eI fZ;(try refine ay ?_;and_intros <;> intros)
          all_goals first
           | (refine ⟨true,rfl,?_⟩;(exact jG [(1,1),(8,8),(2,2),(3,3),(4,4),(5,5),(6,6),(7,7),(9,9)] rfl jH ⟨b2 (.inl rfl),⟨b2 (.inl rfl),⟨(lI rfl lJ (fun i hi=>zc)),⟨b2 (.inl rfl),⟨b2 (.inl rfl),⟨b2 (.inl rfl),⟨b2 (.inl rfl),⟨b2 (.inl rfl),⟨b2 (.inl rfl),trivial⟩⟩⟩⟩⟩⟩⟩⟩⟩ rfl))
           | (exfalso;omega)
           | skip
        rintro z aU;replace aU:=aU.symm;subst aU;rw[<- mn] at aY;clear mn;have qh:=Gi (b:=gl) eG;have iz:=Gj (b:=gl) cw;have gb:(iW d gl).dT=lt:=wF;subst wF;have NJ:(iW d gl).fj=false:=e7;have py:=yB (now:=d.dT) qh iz (by omega) hf wH.1 qg.2;by_cases hs:(l.getD k default).Kind=28
        ·have dX:=U7 (iW d gl) (l.getD k default) d.dT qh iz (by omega) hf hs 5;have wI:gY (iW d gl) (l.getD k default) d.dT=(mq (iW d gl) (l.getD k default).Code,0):=by
          unfold gY;rw[ah (by omega),ah (by omega),ah (by omega),ah (by omega),ah (by omega),ah (by omega),ah (by omega),ah (by omega),al hs]
         rw[wI,ah (fun h=>by cases h.2)] at aY
         cases aY
         rw[al rfl,al (show(mq (iW d gl) (l.getD k default).Code).fj=true from rfl)] at ap;subst ap;have U8:fw (mq (iW d gl) (l.getD k default).Code):=W.qa _ (si (B:=0) (NK qh hf.2.2.2.1) NL (by omega));have ky:=C5 _ U8;clear eG cw qh iz py il im;unfold a1 at dX ky;unfold mq at dX ky ⊢;dsimp only at *;(try refine gW ?_);refine HF 7 (h:=?_);(repeat' first|(refine dL [8,2,3,4,5,6,7] (dX) (hh:=kc) (hH:=by(simp only[hA,jm,cz,cz.ej,hO,Option.map_some,Option.map_none,jv,kg,od,oT,oU,oV,oW,oX,oY,oZ,xg,xh,xi,xj,xk];rw[xl (bn:=19) (h:=?U)];(try rfl);(case U=>(intro i hi;exact absurd hi (Nat.not_lt_zero _))))) (h:=?_))|(refine fI 33 ?_;(and_intros <;> intros))|fail)
         all_goals try (exfalso;omega)
         refine gH (wu (id:=17) rfl (fun i j hi=>absurd hi (Nat.not_lt_zero _))) ?_;refine gH (bq:=⟨[(15,.ptr 8 0 0 0),(8,.ptr 1 0 0 0),(9,ab false),(10,I 0)],[(1,some (.box 51 [ab false,I 0,aX,I 0,aX,aX,I 0,I 0,I 0,I 0,I 0,I 0,I 0,I 0,I 0,I 0,I 0,aX,ab false,aX,I 0,I 0,ab false,I 0])),(8,some (.box 116 [ab d.Client,I d.aQ.Next,.ro (d.aQ.aR.map bC),I d.aQ.c9,.ro (d.aQ.cD.map aB),.ro (d.aQ.bI.map encI),I d.cy.bj,I d.cy.dy,I d.cy.c0,I d.cy.Since,I d.di.Max,I d.di.bG,I d.eh.Max,I d.eh.bG,I d.gQ,I d.gR,I d.cN,.ro [],ab false,.ro [],I d.dT,I d.gP,ab true,I (l.getD k default).Code]))],9,Tryz.f22.ntmps⟩) fP ?_;(repeat' first|(refine dL [] (ky) (h:=?_))|(refine fi [] (ky) (h:=?_))|(refine tj (ky) (h:=?_))|(refine ay ?_;(and_intros <;> intros))|fail)
         all_goals (try dsimp only at *)
         all_goals first|exact dA|skip
        ·have pz:=L9 (iW d gl) (l.getD k default) d.dT hs;have dX:=U9 (iW d gl) (l.getD k default) d.dT qh iz (by omega) hf wH.1 qg.2 hs;generalize gY (iW d gl) (l.getD k default) d.dT=Va at *;obtain ⟨iD,uA⟩:=Va;unfold iq at pz;dsimp only at *;by_cases rO:uA=0
         ·subst rO;rw[al ⟨rfl,pz.2.trans NJ⟩] at aY;have dX:=dX iD 0 rfl _ 13 (.inl ⟨rfl,rfl,rfl⟩);have HL:=py.2.2 rfl;have sj:iD.aq.length<=4:=HL.eg;have hh:c3 iD /\ cK (B+120 * (k+1)) iD /\ iD.fj=false/\iD.dT=d.dT:=⟨py.1,HL.mono (by omega),pz.2.trans NJ,pz.1.trans gb⟩;clear eG cw qh iz py HL ap;unfold a1 at dX;(try refine gW ?_);refine HF 7 (h:=?_);(repeat' first|(refine dL [8,2,3,4,5,6,7] (dX) (hh:=kc) (hH:=by(simp only[hA,jm,cz,cz.ej,hO,Option.map_some,Option.map_none,jv,kg,od,oT,oU,oV,oW,oX,oY,oZ,xg,xh,xi,xj,xk];rw[xl (bn:=19) (h:=?U)];(try rfl);(case U=>(intro i hi;rcases (show i=0\/i=1\/i=2\/i=3 by omega) with rfl|rfl|rfl|rfl <;> rfl)))) (h:=?_))|(refine ng ?_ ?_;(focus (show some (V.lit (Value.bool iD.fj))=some (V.lit (Value.bool false));rw[hh.2.2.1])))|(refine ay ?_;(and_intros <;> intros))|fail)
          all_goals try (exfalso;omega)
          all_goals first
           | (refine ⟨(k+1,iD),?_,?_,?_⟩;rotate_left 2;(exact jG [(1,1),(8,8),(17,2),(18,3),(19,4),(20,5),(21,6),(22,7)] rfl jH ⟨b2 (.inl rfl),⟨b2 (.inl rfl),⟨(lI rfl lJ (fun i hi=>(by rw[bY] at hi;replace hi:i<iD.aq.length:=hi;rcases (show i=0\/i=1\/i=2\/i=3 by omega) with rfl|rfl|rfl|rfl <;> rfl))),⟨b2 (.inl rfl),⟨b2 (.inl rfl),⟨b2 (.inl rfl),⟨b2 (.inl rfl),⟨b2 (.inl rfl),trivial⟩⟩⟩⟩⟩⟩⟩⟩ rfl);(focus (dsimp only;omega));(focus (exact⟨au,hh.1,hh.2.1,hh.2.2.1,hh.2.2.2,aY⟩)))
           | skip
         ·rw[ah (fun h=>rO h.1)] at aY
          cases aY
          rw[ah rO] at ap;subst ap;have dX:=dX C e rfl _ 9 (.inr ⟨rO,rfl,rfl⟩);have sk:=NM C e;have ky:=C5 (kS C e) (W.qa _ (si (B:=0) (C6 py.1 py.2.1) (C7 py.2.1) (by omega)));clear eG cw qh iz py il im;unfold a1 at dX sk ky;unfold kS at ky ⊢;dsimp only at *;(try refine gW ?_);refine HF 7 (h:=?_);(repeat' first|(refine dL [8,2,3,4,5,6,7] (dX) (hh:=kc) (hH:=HM) (h:=?_))|(refine dL [8,17,18] (sk) (h:=?_))|(refine fi [8,17,18] (sk) (h:=?_))|(refine gd [8,17,18] (sk) (h:=?_))|(refine dL [] (ky) (h:=?_))|(refine fi [] (ky) (h:=?_))|(refine tj (ky) (h:=?_))|(refine ay ?_;(and_intros <;> intros))|fail)
          all_goals (try dsimp only at *)
          all_goals first|exact dA|skip
       ·have ca:k=l.length:=by omega
        subst ca;rw[iJ] at aY;unfold kN at aY;obtain ⟨Vb,Vc⟩:=Prod.mk.inj aY;subst Vb;subst Vc;rw[al rfl,ah (by rw[e7];exact iS)] at ap;have sm:=HN eG cw;have fS:=Vd d eG cw;have zd:=Ve d eG cw;generalize lb d=Vf at *;obtain ⟨G,ge⟩:=Vf;dsimp only at *;by_cases hR:ge=0
        ·subst hR;rw[al rfl] at ap;subst ap;have fS:=fS G rfl 5;have HO:=sm.2.2 rfl;have sj:G.aq.length<=4:=HO.eg;have ky:=C5 G (W.qa _ (si sm.1 HO (by omega)));clear eG cw sm HO il im zd;unfold a1 at fS ky;(repeat' first|(refine dL [8,2,3,4,5,6,7] (fS) (hh:=kc) (hH:=by(simp only[hA,jm,cz,cz.ej,hO,Option.map_some,Option.map_none,jv,kg,od,oT,oU,oV,oW,oX,oY,oZ,xg,xh,xi,xj,xk];rw[xl (bn:=11) (h:=?U)];(try rfl);(case U=>(intro i hi;rcases (show i=0\/i=1\/i=2\/i=3 by omega) with rfl|rfl|rfl|rfl <;> rfl)))) (h:=?_))|(refine rM ?_ ?_;(exact NN))|(refine fI 33 ?_;(and_intros <;> intros))|fail)
         all_goals try (exfalso;omega)
         refine gH (NA 9 11 sj (.inl (by omega)) rfl rfl rfl rfl rfl) ?_;refine gH (bq:=⟨[(15,.ptr 8 0 0 0),(8,.ptr 1 0 0 0),(9,ab false),(10,I 0)],[(1,some (.box 51 [ab false,I 0,aX,I 0,aX,aX,I 0,I 0,I 0,I 0,I 0,I 0,I 0,I 0,I 0,I 0,I 0,aX,ab false,aX,I 0,I 0,ab false,I 0])),(8,some (.box 116 [ab G.Client,I G.aQ.Next,.ro (G.aQ.aR.map bC),I G.aQ.c9,.ro (G.aQ.cD.map aB),.ro (G.aQ.bI.map encI),I G.cy.bj,I G.cy.dy,I G.cy.c0,I G.cy.Since,I G.di.Max,I G.di.bG,I G.eh.Max,I G.eh.bG,I G.gQ,I G.gR,I G.cN,.ro (G.aq.map eo),ab G.fT,.ro (G.Queue.map aO),I G.dT,I G.gP,ab G.fj,I G.Code]))],9,Tryz.f22.ntmps⟩) fP ?_;(repeat' first|(refine dL [] (ky) (h:=?_))|(refine fi [] (ky) (h:=?_))|(refine tj (ky) (h:=?_))|(refine ay ?_;(and_intros <;> intros))|fail)
         all_goals (try dsimp only at *)
         all_goals first|exact dA|skip
        ·rw[ah hR] at ap;subst ap;have zd:=zd G ge rfl hR 5;have sk:=NM G ge;have ky:=C5 (kS G ge) (W.qa _ (si (B:=0) (C6 sm.1 sm.2.1) (C7 sm.2.1) (by omega)));clear eG cw sm il im fS;unfold a1 at zd sk ky;unfold kS at ky ⊢;dsimp only at *;(repeat' first|(refine dL [8,2,3,4,5,6,7] (zd) (hh:=kc) (hH:=HM) (h:=?_))|(refine dL [8,9,10] (sk) (h:=?_))|(refine fi [8,9,10] (sk) (h:=?_))|(refine gd [8,9,10] (sk) (h:=?_))|(refine dL [] (ky) (h:=?_))|(refine fi [] (ky) (h:=?_))|(refine tj (ky) (h:=?_))|(refine rM ?_ ?_;(exact NN))|(refine ay ?_;(and_intros <;> intros))|fail)
         all_goals (try dsimp only at *)
         all_goals first|exact dA|skip
     ·rw[al s9] at ap;subst ap;clear lv eG cw il im hw;unfold a1 at vc;(repeat' first|(refine dL [] (vc) (hh:=kc) (hH:=HJ) (h:=?_))|refine bh hH ?_|(refine ng ?_ ?_;(exact HK))|(refine ay ?_;(and_intros <;> intros))|fail)
      all_goals first|exact dA|skip
    ·rw[e7,al rfl] at ap;subst ap;clear lv eG cw il im hw;(repeat' first|(refine rM ?_ ?_;(focus (show some (V.lit (Value.bool c.fj))=some (V.lit (Value.bool true));rw[e7])))|(refine ay ?_;(and_intros <;> intros))|fail)
     all_goals first
      | (exact gS)
      | (exfalso;omega)
      | (exfalso;simp at *;done)
      | skip
  ·rw[ah hn];clear lv eG cw hw il;refine aH Tryz.func22 ?_;(refine bH J ?_;and_intros <;> intros)
   all_goals (try dsimp only at *)
   all_goals first|exact dA|skip
 ·obtain rfl:yz=9:=by rcases Gk c with⟨h,_⟩ | ⟨h,_⟩ <;> omega
  rw[ah (by decide)];clear lv hw il;refine aH Tryz.func22 ?_;(refine bH J ?_;and_intros <;> intros)
  all_goals (try dsimp only at *)
  all_goals first|exact dA|skip
end
end Go.Proofs.YtendheafcbickaaGreat
