/-
  SEVERAL TEXTS IN ONE: each with its own comment.
-/
import Derived.Test.YtendheafcbickaaGreatTMg47
import Derived.Deep.CondSized
import Derived.Test.YtendheafcbickaaGreatTZip
import Derived.Test.YtendheafcbickaaGreatTMg11
set_option linter.unusedVariables false
set_option linter.unusedSimpArgs false
namespace Go.Proofs.YtendheafcbickaaGreat.bR
open Go.ChangeShapes Go.WideShapes Go.ChangeAt Go.RowKit Go.Deep
def Cells (P:Program) (W:World) (t:TypeId) (cs:List Value):Prop:=
 ∃ (H:Type) (enc:TypeId×Value->H) (k0:Nat) (x:DataW H×List MemPlace),
  DataW.trod enc P W 0 (fun _=>true) true k0 t cs=some x/\Rows.uptoBulk x.1<=1048576
def jR (P:Program) (W:World) (t:TypeId) (v:Value):Prop:=
 (∃ base,Value.okWide P W .any base t v)/\Cells P W t v.cells.toList
def oL (P:Program) (W:World):List TypeId->List Value->Prop
 | [],vs=>vs=[]
 | t :: ts,vs=>∃ v cc,vs=v :: cc /\ jR P W t v/\oL P W ts cc
section
variable {P:Program} {W:World} {t e:TypeId} {v:Value} {cs:List Value}
theorem Cells.cP {k:IntKind} (hu:P.underlying t=some (.int k)) (h:Cells P W t cs):∃ n,cs=[.int k n]/\(Lit.int k n).wf=true:=by
 obtain ⟨H,enc,k0,x,U,_⟩:=h
 obtain ⟨n,I,_,av⟩:=DataW.trod_int hu U
 exact⟨n,I,av⟩
theorem Cells.il (hu:P.underlying t=some .bool) (h:Cells P W t cs):∃ b:Bool,cs=[.bool b]:=by
 obtain ⟨H,enc,k0,x,U,_⟩:=h
 obtain ⟨n,I,_⟩:=DataW.trod_bool hu U
 exact⟨n,I⟩
theorem wR {H:Type}:∀ {ds:List (DataW H)} {d:DataW H},d ∈ ds->Rows.uptoBulk d<=Rows.uptoBulkAll ds
 | [],_,h=>by cases h
 | d0 :: ds,d,h=>by
  simp only[Rows.uptoBulkAll]
  rcases List.mem_cons.1 h with rfl|h
  ·omega
  ·have:=wR h;omega
theorem Q8 {H:Type} (d:DataW H):1<=Rows.uptoBulk d:=by
 cases d with
 | lit l=>cases l <;> simp[Rows.uptoBulk]
 | _=>simp[Rows.uptoBulk]
theorem D3 {H:Type}:∀ (l:List (DataW H)),l.length<=Rows.uptoBulkAll l
 | []=>by simp[Rows.uptoBulkAll]
 | x :: r=>by
  have I:=Q8 x
  have J:=D3 r
  simp only[Rows.uptoBulkAll,List.length_cons];omega
theorem Cells.wH (hu:P.underlying t=some (.slice e)) (h:Cells P W t cs) :
  (cs=[.slice none 0 0]) \/ ∃ (a:Addr) (len cap:Nat),cs=[.slice (some a) len cap]/\len<=cap/\cap<=maxLen/\cap<=1048576 /\
   ∀ i,i<cap -> ∃ es,es.length=P.cellsOf e/\(∀ j,j<P.cellsOf e->W.cell? ((a.add (i * P.cellsOf e)).add j)=es[j]?)/\Cells P W e es:=by
 obtain ⟨H,enc,k0,x,U,hw⟩:=h
 rcases open_slice hu U with af | ⟨a,len,cap,m,n,D,QY,iW,_,aq,hm,wI,DS,hi⟩
 ·exact .inl af.1
 ·simp only[if_true] at wI
  subst wI
  subst DS
  refine .inr ⟨a,len,m,iW,aq,hm,?_,fun i DT=>?_⟩
  ·simp only[Rows.uptoBulk] at hw
   have bL:=D3 ((List.range len).map D)
   have gT:=D3 ((List.range (m - len)).map fun i=>D (len+i))
   simp only[List.length_map,List.length_range] at bL gT
   omega
  ·obtain ⟨es,hc,ht⟩:=hi i DT
   obtain ⟨_,sY,ga⟩:=World.cells?_some hc
   refine ⟨es,sY,ga,H,enc,n,_,ht,?_⟩
   simp only[Rows.uptoBulk] at hw
   by_cases ou:i<len
   ·have:=wR (H:=H) (ds:=(List.range len).map D) (d:=D i) (List.mem_map.2 ⟨i,List.mem_range.2 ou,rfl⟩)
    dsimp only
    omega
   ·have:=wR (H:=H) (ds:=(List.range (m - len)).map fun j=>D (len+j)) (d:=D i) (List.mem_map.2 ⟨i - len,List.mem_range.2 (show i - len<m - len by omega),by rw[show len+(i - len)=i by omega]⟩)
    dsimp only
    omega
theorem Cells.gV {dA:Array Field} (hu:P.underlying t=some (.struct dA)) (h:Cells P W t cs) :
  cs.length=P.cellsOf t /\ ∀ (i:Nat) (f:Field),dA[i]? = some f->Cells P W f.type ((cs.drop f.offset).take (P.cellsOf f.type)):=by
 obtain ⟨H,enc,k0,x,U,hw⟩:=h
 obtain ⟨xs,n,_,rfl,aq,hlen,hf⟩:=DataW.trod_struct hu U
 refine ⟨aq,fun i f hi=>?_⟩
 have cj:i<xs.length:=by rw[hlen];exact(Array.getElem?_eq_some_iff.1 hi).1
 have I:=hf i f hi
 rw[List.getElem?_eq_getElem cj] at I
 refine ⟨H,enc,n,_,I,?_⟩
 simp only[Rows.uptoBulk] at hw
 have:=wR (H:=H) (ds:=xs.map (·.1)) (d:=xs[i].1) (List.mem_map.2 ⟨xs[i],List.getElem_mem cj,rfl⟩)
 omega
theorem Cells.Q9 {n:Nat} (hu:P.underlying t=some (.array n e)) (h:Cells P W t cs) :
  cs.length=P.cellsOf t /\ ∀ i,i<n->Cells P W e ((cs.drop (i * P.cellsOf e)).take (P.cellsOf e)):=by
 obtain ⟨H,enc,k0,x,U,hw⟩:=h
 obtain ⟨xs,m,_,rfl,aq,hlen,hf⟩:=DataW.trod_array hu U
 refine ⟨aq,fun i hi=>?_⟩
 have cj:i<xs.length:=by omega
 have I:=hf i hi
 rw[List.getElem?_eq_getElem cj] at I
 refine ⟨H,enc,m,_,I,?_⟩
 simp only[Rows.uptoBulk] at hw
 have:=wR (H:=H) (ds:=xs.map (·.1)) (d:=xs[i].1) (List.mem_map.2 ⟨xs[i],List.getElem_mem cj,rfl⟩)
 omega
theorem jR.cP {k:IntKind} (hu:P.underlying t=some (.int k)) (h:jR P W t v):∃ n,v = .int k n/\(Lit.int k n).wf=true:=by
 obtain ⟨⟨b,hb⟩,hc⟩:=h
 obtain ⟨n,rfl⟩:=okWide_int hu hb
 obtain ⟨wJ,I,J⟩:=hc.cP hu
 simp[Value.cells] at I
 subst I
 exact⟨n,rfl,J⟩
theorem jR.il (hu:P.underlying t=some .bool) (h:jR P W t v):∃ b:Bool,v = .bool b:=by
 obtain ⟨⟨b,hb⟩,hc⟩:=h
 exact okWide_bool hu hb
theorem jR.wH (hu:P.underlying t=some (.slice e)) (h:jR P W t v):∃ a n c,v = .slice a n c/\Cells P W t [.slice a n c]:=by
 obtain ⟨⟨b,hb⟩,hc⟩:=h
 obtain ⟨a,n,c,rfl⟩:=okWide_slice hu hb
 exact⟨a,n,c,rfl,by simpa[Value.cells] using hc⟩
theorem jR.gV {dA:Array Field} (hu:P.underlying t=some (.struct dA)) (h:jR P W t v):∃ cs:List Value,v = .agg cs.toArray/\Cells P W t cs:=by
 obtain ⟨⟨b,hb⟩,hc⟩:=h
 obtain ⟨cs,rfl,_⟩:=okWide_struct hu hb
 exact⟨cs.toList,by simp,by simpa[Value.cells] using hc⟩
end
theorem wK {H:Type} {enc:TypeId×Value->H} {P:Program} {W:World} :
  ∀ {ts:List TypeId} {vs:List Value} {ds:List (DataW H)} {bK:List MemPlace},(∀ (j:Nat) t v,ts[j]? = some t->vs[j]? = some v -> ∃ base,Value.okWide P W .any base t v) ->
   Rows.uptoBulkAll ds<=1048576->DataW.TrodAll enc P W 0 (fun _=>true) true ts vs ds bK->oL P W ts vs
 | [],vs,ds,bK,_,_,h=>by cases vs <;> cases ds <;> simp_all [DataW.TrodAll,oL]
 | t :: ts,vs,ds,bK,hv,hw,h=>by
  obtain ⟨v,cc,d,Au,p,q,rfl,rfl,rfl,I,J⟩:=trodAll_cons h
  refine ⟨v,cc,rfl,⟨hv 0 t v rfl rfl,?_⟩,wK (fun j qn cX av bl=>hv (j+1) qn cX (by simpa using av) (by simpa using bl)) (by simp only[Rows.uptoBulkAll] at hw;omega) J⟩
  obtain ⟨m,hm⟩:=I
  exact⟨H,enc,m,_,hm,by simp only[Rows.uptoBulkAll] at hw;dsimp only;omega⟩
theorem Hp {C:Checked} {os:Os} {f:FuncId} {fn:Func} {s:ChangeSpec} {sZ:TypeId} {H:Type} {enc:TypeId×Value->H} {F:Stop.Interp}
  (own:ownKnob C.prog.godebug=none) (started:os.Started) (DV:C.prog.inits.idxOf? f=none) (iD:C.prog.funcs[f]? = some fn)
  (witness:∃ (w:World) (tape:Tape) (i:Input),w.os=os/\(w.forCall tape i).Shaped C.prog/\i.vars=[]/\Input.okWide C.prog (w.forCall tape i) .any w.heap.size f i /\
   (Rows.OpenSpec.upto s).pre6 enc C.prog fn [] false (w.forCall tape i).memory i.args/\({}:Assume).holds C.prog (lone (Frame.enter C.prog f i.args .normal) [] (w.forCall tape i)))
  (aq:laidOutB C.prog=true) (uG:s.vars=[]) (DW:∀ ds:List (DataW H),ds.length=fn.params.size->s.fn H ds={ results:=[.lit (.bool true)],args:=ds })
  (Av:fn.resultTypes = #[sZ]) (hb:C.prog.underlying sZ=some .bool) (DX:(fn.params.toList.all fun t=>C.prog.readableRec t && decide (t<C.prog.types.size))=true)
  (walk:∀ (W:World) (args:Array Value),oL C.prog W fn.params.toList args.toList->Calls C.prog f args W fun e nU=>e = .returned (.bool true)/\Below W.heap.size W nU) :
  ReturnsInHanded {} C os f .any ((Rows.OpenSpec.upto s).pre6 enc C.prog fn [] false) (((Rows.OpenSpec.upto s).at F).post enc C.prog fn false true false false):=by
 refine returnsInHanded_of_cond_sized (s:=Rows.OpenSpec.upto s) (k:=Rows.uptoSmall) rfl own started DV iD witness ?_
 have DY:∀ t ∈ fn.params.toList,C.prog.readableRec t=true/\t<C.prog.types.size:=fun t ht=>by
  have:=List.all_eq_true.1 DX t ht
  simpa using this
 intro W base args ds gs before DZ mi _ ag _ _
 have D0:=mi
 obtain ⟨p,q,b1,k1,rfl,QZ,wL⟩:=mi
 have Ra:(Rows.OpenSpec.upto s).vars=[]:=uG
 rw[Ra] at k1
 obtain ⟨rfl,rfl⟩:=trodVars_none k1
 have hlen:ds.length=fn.params.size:=by
  have:∀ (ts:List TypeId) (vs:List Value) (ds:List (DataW H)) (bK:List MemPlace),DataW.TrodAll enc C.prog W 0 (fun _=>true) true ts vs ds bK->ds.length=ts.length:=by
   intro ts
   induction ts with
   | nil=>intro vs ds bK h;cases vs <;> cases ds <;> simp_all [DataW.TrodAll]
   | cons t ts cf=>
    intro vs ds bK h
    obtain ⟨v,cc,d,Au,p,q,rfl,rfl,rfl,I,J⟩:=trodAll_cons h
    simp[cf _ _ _ J]
  simpa using this _ _ _ _ b1
 have Rb:Rows.uptoSmall H ds=true:=by rw[List.append_nil] at ag;exact ag
 have mj:oL C.prog W fn.params.toList args.toList:=wK (fun j t v I J=>⟨base,DZ j t v (by simpa using I) (by simpa using J)⟩) (of_decide_eq_true Rb) b1
 refine (walk W args mj).mono fun e nU ⟨he,wM⟩=>?_
 subst he
 have kB:((Rows.OpenSpec.upto s).at F).fn H (ds++[])={ results:=[.lit (.bool true)],args:=ds++[] }:=DW (ds++[]) (by simpa using hlen)
 refine ⟨_,rfl,ds,[],_,[],p,[],D0,?_,?_,?_,wM.frame _,fun h=>by cases h⟩
 ·rw[kB,Av]
  exact trodAll_mk1 (shut_bool hb _)
 ·rw[kB]
  simp only[List.append_nil]
  exact DU aq wM DY b1
 ·have D4:((Rows.OpenSpec.upto s).at F).vars=[]:=uG
  rw[D4,kB]
  rfl
end Go.Proofs.YtendheafcbickaaGreat.bR
namespace Go.Proofs.YtendheafcbickaaGreat.bR
open Go.ChangeShapes Go.WideShapes Go.ChangeAt Go.RowKit Go.Deep
theorem qo {P:Program} {W:World} {t:TypeId} {S:Nat->Prop} (hu:P.underlying t=some (.int .u8)) (es:List Value) (h:Cells P W t es):∃ x,eQ S W (aC x) es/\True:=by
 obtain ⟨n,rfl,hw⟩:=h.cP hu
 have:=bounds_u8 hw
 refine ⟨UInt8.ofNat n.toNat,aP ?_ gZ,trivial⟩
 have e:((UInt8.ofNat n.toNat).toNat:Int)=n:=by
  rw[UInt8.toNat_ofNat'];omega
 rw[e];exact .lit _ rfl
theorem D2 {P:Program} {W:World} {t:TypeId} {S:Nat->Prop} (hu:P.underlying t=some (.int .i64)) (es:List Value) (h:Cells P W t es):∃ x,eQ S W (encI x) es/\aF x:=by
 obtain ⟨n,rfl,hw⟩:=h.cP hu
 exact⟨n,aP (.lit _ rfl) gZ,db hw⟩
theorem hp {α:Type} {P:Program} {W:World} {t e:TypeId} {v:Value} {enc:α->List V} {wf:α->Prop} {size bytes:Nat}
  (hu:P.underlying t=some (.slice e)) (ap:P.cellsOf e=size) (hb:P.bytesOf e=bytes) (s0:0<size)
  (bn:∀ es,Cells P W e es -> ∃ x,eQ (fun b=>b<W.heap.size) W (enc x) es/\wf x) (h:Cells P W t [v]) :
  ∃ l:List α,fP (fun b=>b<W.heap.size) W (.ro (l.map enc)) v/\l.length * bytes<=bytes * 1048576 /\ ∀ y,y ∈ l->wf y:=by
 rcases h.wH hu with af | ⟨a,len,cap,hv,aq,wN,hc,he⟩
 ·injection af with af _
  subst af
  exact⟨[],.ro [] none 0 1 0 0 (fun _ _=>undef) (Nat.le_refl _) pf (by omega) (fun h=>by simp at h) (fun i hi=>by simp at hi) (fun i j hi=>by simp at hi) (fun i j hi=>by simp at hi),by simp,fun y ai=>by simp at ai⟩
 ·injection hv with hv _
  subst hv
  rw[ap] at he
  have U:∀ i,i<len -> ∃ x es,es.length=size/\(∀ j,j<size->W.cell? ((a.add (i * size)).add j)=es[j]?)/\eQ (fun b=>b<W.heap.size) W (enc x) es/\wf x:=fun i hi=>by
   obtain ⟨es,I,J,av⟩:=he i (by omega)
   obtain ⟨x,U,hw⟩:=bn es av
   exact⟨x,es,I,J,U,hw⟩
  have sY:∃ l:List α,l.length=len/\(∀ i (h:i<l.length),∃ es,es.length=size/\(∀ j,j<size->W.cell? ((a.add (i * size)).add j)=es[j]?)/\eQ (fun b=>b<W.heap.size) W (enc l[i]) es) /\ ∀ y,y ∈ l->wf y:=by
   clear aq hc he h
   induction len with
   | zero=>exact⟨[],rfl,fun i hi=>by simp at hi,fun y ai=>by simp at ai⟩
   | succ n cf=>
    obtain ⟨l,aq,kh,l8⟩:=cf (fun i hi=>U i (by omega))
    obtain ⟨x,es,I,J,av,bl⟩:=U n (by omega)
    refine ⟨l++[x],by simp[aq],fun i hi=>?_,fun y ai=>?_⟩
    ·simp at hi
     by_cases eT:i<l.length
     ·rw[List.getElem_append_left eT]
      exact kh i eT
     ·have:i=n:=by omega
      subst this
      refine ⟨es,I,J,?_⟩
      rw[List.getElem_append_right (by omega)]
      simpa[aq] using av
    ·simp at ai
     rcases ai with ai|rfl
     ·exact l8 y ai
     ·exact bl
  obtain ⟨l,fW,kh,l8⟩:=sY
  subst fW
  have Aw:l.length * bytes<=bytes * 1048576:=by rw[Nat.mul_comm bytes];exact Nat.mul_le_mul_right _ (Nat.le_trans aq hc)
  refine ⟨l,?_,Aw,l8⟩
  by_cases af:0<l.length
  ·obtain ⟨Q1,g1,g2,_⟩:=kh 0 af
   have kB:a.spot=none:=by
    have g:=g2 0 s0
    rw[List.getElem?_eq_getElem (by omega)] at g
    have:=World.cell?_spot g
    simpa[Addr.add] using this
   obtain ⟨b,off,spot⟩:=a
   simp only at kB
   subst kB
   simp only[qp] at kh g2
   have cj:b<W.heap.size:=by
    have g:=g2 0 s0
    rw[List.getElem?_eq_getElem (by omega)] at g
    exact pq g
   have dZ:∀ i (h:i<l.length),(enc l[i]).length=size:=fun i hi=>by
    obtain ⟨es,aT,a1,bz⟩:=kh i hi
    rw[<- bz.1,aT]
   have wO:∀ i (h:i<l.length),bH (l.map enc) i=enc l[i]:=fun i hi=>by
    unfold bH
    rw[List.getD_eq_getElem?_getD,List.getElem?_map,List.getElem?_eq_getElem hi];rfl
   have:fP (fun b=>b<W.heap.size) W (.ro (l.map enc)) (.slice (some ⟨b,off,none⟩) (l.map enc).length cap):=by
    refine .ro _ _ cap size b off (fun i j=>(W.cell? ⟨b,off+i * size+j,none⟩).getD undef) (by simpa using aq) wN s0 (fun _=>⟨rfl,cj⟩) (fun i hi=>?_) (fun i j hi ah=>?_) (fun i j hi ah=>?_)
    ·rw[List.length_map] at hi;rw[wO i hi];exact dZ i hi
    ·rw[List.length_map] at hi
     obtain ⟨es,aT,a1,bz⟩:=kh i hi
     rw[a1 j ah,List.getElem?_eq_getElem (by omega)];rfl
    ·rw[List.length_map] at hi
     obtain ⟨es,aT,a1,bz⟩:=kh i hi
     rw[wO i hi,a1 j ah]
     have:=bz.2 j (by rw[dZ i hi];exact ah)
     rwa [List.getD_eq_getElem?_getD] at this
   rwa [List.length_map] at this
  ·have hn:l=[]:=List.eq_nil_of_length_eq_zero (by omega)
   subst hn
   exact .ro [] (some a) cap 1 0 0 (fun _ _=>undef) (by simp) wN (by omega) (fun h=>by simp at h) (fun i hi=>by simp at hi) (fun i j hi=>by simp at hi) (fun i j hi=>by simp at hi)
end Go.Proofs.YtendheafcbickaaGreat.bR
