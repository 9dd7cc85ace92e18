/-
  SEVERAL TEXTS IN ONE: each with its own comment.
-/
import Derived.Test.YtendheafcbickaaGreatTAbsB
import Derived.Test.YtendheafcbickaaGreatTZip
import Derived.Maps.RangeRun
set_option linter.unusedVariables false
set_option linter.unusedSimpArgs false
namespace Go.Proofs.YtendheafcbickaaGreat
section
open Go.RowKit
section
variable {P:Program} {n0:Nat}
theorem Ry {st:ba} (e s:Nat) (af:Nat.blt 0 s=true) (hn0:Nat.ble n0 st.next=true) {F:Nat->Prop} {base:Nat->Prop} {w0 w:World} {ρ:Nat->Option Value} {a:Act} (ak:en F base ρ st.heap st.next w0 w) (ay:eR ρ (bC F ρ st.heap) w st.ad st.env a) :
  ∃ bm,en F base bm ((st.next,some (.row e s [])) :: st.heap) (st.next+1) w0 w/\eR bm (bC F bm ((st.next,some (.row e s [])) :: st.heap)) w st.ad st.env a/\bm st.next=some (.slice none 0 0) /\ ∀ id,id≠st.next->bm id=ρ id:=by
 have eH:ρ st.next=none:=by
  cases h:ρ st.next with
  | none=>rfl
  | some x=>exact absurd (ak.sup _ _ h).1 (Nat.lt_irrefl _)
 have nF:∀ id x,ρ id=some x->lO ρ st.next (.slice none 0 0) id=some x:=fun id x h=>by rw[mx _ _ (fun e=>by rw[e,eH] at h;cases h)];exact h
 obtain ⟨aT,a1,bz⟩:=ak.step (bm:=lO ρ st.next (.slice none 0 0)) (cS:=(st.next,some (.row e s [])) :: st.heap) (next':=st.next+1) (aE:=w) st.next none
  ⟨rfl,rfl,rfl,Nat.le_refl _,fun _ _ _=>rfl⟩ (fun k ag=>by cases ag) nF
  (fun id x h=>by
   by_cases e:id=st.next
   ·rw[e,hx] at h;injection h with h;subst h;exact⟨by omega,rfl⟩
   ·rw[mx _ _ e] at h;have:=ak.sup _ _ h;exact⟨by omega,this.2⟩)
  (fun j B c9 aB=>by
   rw[ea,if_neg (Ne.symm c9)] at aB
   obtain ⟨u,hu⟩:=ak.oM aB
   exact⟨aB,u,hu,fun _ _ _ e=>by cases e⟩)
  (fun B u b aB wW hu hb=>by
   rw[hx] at hu;injection hu with hu;subst hu
   simp[dY] at hb)
  (fun B aB hS eV=>by
   rw[ea,if_pos rfl] at aB;injection aB with aB;subst aB
   exact⟨Nat.le_of_ble_eq_true af,_,[],hx _ _ _,⟨World.ownsRow_nil w 0 e s,fun b hb=>by cases hb⟩,fun i hi=>by simp at hi,fun i j hi=>by simp at hi⟩)
 exact⟨_,aT,ay.mono a1 bz nF,hx _ _ _,fun id h=>mx _ _ h⟩
end
end
section
open Go.RowKit Go.ChangeMaps
section
variable {P:Program} {o:Oper} {n0:Nat} {st:ba} {G:List Nat}
theorem Vv {id:Nat} {q:Option IntKind} {es:List (Value×Value)} (hh:bd st.heap id=some (.map q es)):cu P n0 st { st with heap:=(id,some (.jX q es)) :: st.heap }:=fun F base w0 ρ a w ak ay=>by
 obtain ⟨b,cn,clock,I,J,av,bl,dm,fr⟩:=ak.dB _ _ hh
 have hS:∀ b,bC F ρ st.heap b->bC F ρ ((id,some (.jX q es)) :: st.heap) b:=fun b h=>⟨h.1,fun j B u aB aa hu=>by
  rw[ea] at aB
  split at aB
  ·injection aB with aB;subst aB;cases aa
  ·exact h.2 j B u aB aa hu⟩
 have Fs:bC F ρ ((id,some (.jX q es)) :: st.heap) b:=by
  have ti:=ak.owned hh rfl I (b:=b) rfl
  refine ⟨ak.ch b ti.1,fun j B u aB aa hu Ft=>?_⟩
  rw[ea] at aB
  split at aB
  ·injection aB with aB;subst aB;cases aa
  ·rename_i lV
   exact lV (ak.inj id j _ B _ u b hh aB rfl aa I hu rfl Ft)
 refine ⟨ρ,⟨⟨ak.below,ak.fC,ak.sup,fun i j B bT u ev b aB cJ aa eJ hu ec hb dl=>?_,fun j B aB=>?_⟩,ak.ch⟩,ay.mono (dX.refl _ _) (fun b h _=>hS b h) (fun _ _ h=>h),fun _ _=>rfl⟩
 ·rw[ea] at aB cJ
  split at aB
  ·injection aB with aB;subst aB;cases aa
  ·split at cJ
   ·injection cJ with cJ;subst cJ;cases eJ
   ·exact ak.inj i j B bT u ev b aB cJ aa eJ hu ec hb dl
 ·rw[ea] at aB
  split at aB
  ·rename_i e;subst e
   injection aB with aB;subst aB
   exact⟨b,cn,clock,I,Fs,av,bl,dm,fr⟩
  ·exact(ak.dB j B aB).mono (dX.refl _ _) (fun b h _=>hS b h) (fun _ _ h=>h) (fun _ _ _ _ _ _=>rfl)
theorem Vw {q:Option IntKind} {v:Value} (h:h6 q v=true):v.oneCell' = true:=by
 rcases qN h with⟨k,a,_,rfl⟩ | ⟨s,_,rfl⟩ <;> rfl
theorem Vx (cn:Array MapEntry):leftOf cn #[]=cn:=by unfold leftOf;simp
theorem Vy {k T kt et id d:Nat} {x:Operand} {q:Option IntKind} {es:List (Value×Value)} (aa:o.op = .range T x) (U:aI st.env x=some (.own id)) (hh:bd st.heap id=some (.jX q es)) (aV:P.underlying T=some (.map kt et)) (hd:o.dst=some d) (aL:Nat.blt d st.ad=true) :
  ko P k o st (st.newAt k d (.own k) (.iter es none)):=fun F base w0 ρ a w ak ay eH ag=>by
 have I:=mR (c0 ay U)
 obtain ⟨b,cn,clock,aH,aN,bS,eK,iI,kn⟩:=ak.dB _ _ hh
 rw[I] at aH;injection aH with aH
 have cj:=(Array.getElem?_eq_some_iff.1 bS).1
 refine my (u:=.pointer (some ⟨w.heap.size,0,none⟩)) (aE:=w.alloc (.mapIter (some b) clock #[] clock)) ?_ ?_
 ·unfold execOp;rw[aa]
  simp only[Sem.run_bind,aH,run_range_map w T kt et b cn clock aV bS];rfl
 ·rw[hd]
  refine rJ ak ay eH ag (rK _ _) (fun _ b hb=>by simp only[dY,Option.some.injEq] at hb;omega) (Nat.le_of_ble_eq_true aL) rfl (fun S hS _ eV=>?_) (fun S=>.own (hx _ _ _))
  refine ⟨w.heap.size,b,cn,clock,clock,#[],clock,hx _ _ _,ak.fC _ (Nat.le_refl _),heap_alloc_new _ _,hS b aN cj,by rw[eV b aN cj];exact bS,kn,kn.2,Nat.le_refl _,Nat.le_refl _,by rw[Vx];exact eK,fun e he=>?_,fun oP h=>by cases h⟩
  have:=iI (lm e) DB
  exact⟨Vw this.1,this.2⟩
def XY (P:Program) (n0:Nat) (o:Oper) (st:ba) (S:ba->Prop):Prop:=
 ∀ F base w0 ρ a w,en F base ρ st.heap st.next w0 w->eR ρ (bC F ρ st.heap) w st.ad st.env a->o.wp P a w (fun gQ aE=>∃ bG,S bG /\ Next n0 F base w0 ρ w bG gQ aE) (fun _ _ _=>False)
theorem Vz {id:Nat} {x:Operand} {left:List (Value×Value)} {oP:Value×Value} (aa:o.op = .entry x) (U:aI st.env x=some (.own id)) (hh:bd st.heap id=some (.iter left (some oP))) (jZ:pw id G=true):bw P G o st (.b0 [.lit oP.1,.lit oP.2]):=fun F base w0 ρ a w ak ay dx=>by
 have I:=mR (c0 ay U)
 obtain ⟨r,b,cn,clock,since,seen,aS,aH,aN,bS,eK,iI,hb,hold,XZ,X0,X1,n7,F9⟩:=ak.dB _ _ hh
 obtain ⟨rfl,AB,e,rfl,MZ,rfl⟩:=F9 _ rfl
 have M0:=n7 e MZ
 refine ⟨.tuple #[e.key,e.val],.b0 rfl (fun j ah=>?_),fun aE ka=>?_⟩
 ·match j,ah with
  | 0,_=>exact .pure (.lit _ M0.1)
  | 1,_=>exact .pure (.lit _ M0.2)
 ·have g3:aE.heap[r]? = some (.mapIter (some b) since (AB.push e.born) aS):=by
   rw[ka.block r (Array.getElem?_eq_some_iff.1 bS).1 (AJ ak dx jZ hh rfl aH rfl)];exact bS
  have g5:aE.heap[b]? = some (.map cn aS):=by
   rw[ka.block b (Array.getElem?_eq_some_iff.1 iI).1 (J7 dx eK)];exact iI
  rw[I] at aH;injection aH with aH
  unfold execOp;rw[aa]
  simp only[]
  rw[aH]
  simp only[Sem.run_bind,run_entry_at (P:=P) aE r b since AB cn aS e g3 g5 MZ hb.1]
  rfl
section
variable {ops:List Oper} {rest:List Oper} {env:List (Nat×V)} {heap:List (Nat×Option aY)} {next ad:Nat} {Q:ba->Prop}
theorem yC {T et id d:Nat} {x:Operand} {q:Option IntKind} {es:List (Value×Value)} (aa:o.op = .range T x:=by rfl) (U:aI env x=some (.own id):=by rfl) (hh:bd heap id=some (.map q es):=by rfl) (hq:tI P T=some (q,et):=by rfl)
  (aj:bW env ops o.guard=some true:=by rfl) (hd:o.dst=some d:=by rfl) (aL:Nat.blt d ad=true:=by rfl) (hn0:Nat.ble n0 next=true:=by rfl)
  (h:a8 P n0 ops.toArray rest ⟨(d,.own next) :: env,(next,some (.iter es none)) :: (id,some (.jX q es)) :: heap,next+1,ad⟩ Q):a8 P n0 ops.toArray (o :: rest) ⟨env,heap,next,ad⟩ Q:=by
 obtain ⟨kt,I,J⟩:=Bz hq
 refine y3 (Vv (st:=⟨env,heap,next,ad⟩) hh) ?_
 exact jI aj (n5 (Nat.le_of_ble_eq_true hn0) (Vy (T:=T) (id:=id) (q:=q) (es:=es) (st:={ env:=env,heap:=(id,some (.jX q es)) :: heap,next:=next+1,ad:=ad }) aa U (by simp[bd]) I hd aL)) h
theorem yD {id d:Nat} {x:Operand} {left:List (Value×Value)} {oP:Value×Value} (aa:o.op = .entry x:=by rfl) (U:aI env x=some (.own id):=by rfl) (hh:bd heap id=some (.iter left (some oP)):=by rfl)
  (aj:bW env ops o.guard=some true:=by rfl) (hd:o.dst=some d:=by rfl) (aL:Nat.blt d ad=true:=by rfl)
  (h:a8 P n0 ops.toArray rest ⟨(d,.b0 [.lit oP.1,.lit oP.2]) :: env,heap,next,ad⟩ Q):a8 P n0 ops.toArray (o :: rest) ⟨env,heap,next,ad⟩ Q:=
 gS aj hd aL (Vz (st:=⟨env,heap,next,ad⟩) (G:=[]) aa U hh rfl) h
end
end
end
end Go.Proofs.YtendheafcbickaaGreat
