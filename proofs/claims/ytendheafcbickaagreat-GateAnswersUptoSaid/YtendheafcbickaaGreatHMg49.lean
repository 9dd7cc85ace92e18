/-
  SEVERAL TEXTS IN ONE: each with its own comment.
-/
import Derived.Test.YtendheafcbickaaGreatHEnc
import Derived.Test.YtendheafcbickaaGreatHMg48
import Derived.Test.YtendheafcbickaaGreatProg
import Derived.Deep.CondSized
import Derived.Test.YtendheafcbickaaGreatHMg13

set_option linter.unusedVariables false
set_option linter.unusedSimpArgs false
set_option linter.unusedVariables false
namespace Go.Proofs.YtendheafcbickaaGreat
open Go.ChangeShapes Go.WideShapes Go.ChangeAt Go.RowKit Go.Deep
theorem i64_of_wf {x:Int} (h:(Lit.int .i64 x).wf=true):I64 x:=bounds_i64 h
theorem u64_of_wf {x:Int} (h:(Lit.int .u64 x).wf=true):U64 x:=by
  have:=bounds_u64 h
  unfold U64;omega
def RdC (S:Nat→Prop) (w:World) (cs:List V) (es:List Value):Prop:=es.length=cs.length ∧ ∀ j,j<cs.length→PRel S w (cAt cs j) (es.getD j undef)
theorem rd0 {S:Nat→Prop} {w:World}:RdC S w [] []:=⟨rfl,fun j hj=>by simp at hj⟩
theorem rdc {S:Nat→Prop} {w:World} {c:V} {u:Value} {cs:List V} {es:List Value} (h:PRel S w c u) (k:RdC S w cs es):RdC S w (c :: cs) (u :: es):=by
  refine ⟨by simp [k.1],fun j hj=>?_⟩
  cases j with
  | zero=>simpa [cAt] using h
  | succ j=>have:=k.2 j (by simpa using hj);simpa [cAt] using this
def ArgV (W:World) (v:Value) (x:V):Prop:=VRel (fun _=>none) (fun b=>b<W.heap.size) W x v
theorem argv_lit {W:World} {u:Value} (h:u.oneCell' = true):ArgV W u (.lit u):=.pure (.lit _ h)
theorem argv_ro {W:World} {u:Value} {l:List (List V)} (h:PRel (fun b=>b<W.heap.size) W (.ro l) u):ArgV W u (.ro l):=.pure h
theorem argv_agg {W:World} {cs:List V} {es:List Value} (h:RdC (fun b=>b<W.heap.size) W cs es):ArgV W (.agg es.toArray) (.agg cs):=
  .agg (by simp [h.1]) (fun j hj=>by
    have:=h.2 j hj
    have e:es.toArray.getD j undef=es.getD j undef:=by rw [Array.getD_eq_getD_getElem?,List.getD_eq_getElem?_getD];simp
    rw [e];exact .pure this)
inductive ArgVs (W:World):List V→List Value→Prop
  | nil:ArgVs W [] []
  | cons {x:V} {v:Value} {xs:List V} {vs:List Value} (h:ArgV W v x) (hs:ArgVs W xs vs):ArgVs W (x :: xs) (v :: vs)
theorem ArgVs.spec {W:World} {xs:List V} {vs:List Value} (h:ArgVs W xs vs):vs.length=xs.length ∧ ∀ j,j<xs.length→ArgV W (vs.getD j undef) (cAt xs j):=by
  induction h with
  | nil=>exact ⟨rfl,fun j hj=>by simp at hj⟩
  | cons h hs ih=>
    refine ⟨by simp [ih.1],fun j hj=>?_⟩
    cases j with
    | zero=>simpa [cAt] using h
    | succ j=>have:=ih.2 j (by simpa using hj);simpa [cAt] using this
theorem law_of_fn {P:Program} {f:FuncId} {xs:List V} {vs:List Value} {W:World} (hf:Fn P f xs (.lit (.bool true))) (ha:ArgVs W xs vs):Calls P f vs.toArray W fun e W'=>e = .returned (.bool true)∧Below W.heap.size W W':=by
  obtain ⟨h1,h2⟩:=ha.spec
  refine (hf.2 W (fun _=>True) vs.toArray (by simpa using h1) (fun _ _=>trivial) (fun j hj=>?_)).mono ?_
  · have e:vs.toArray.getD j undef=vs.getD j undef:=by rw [Array.getD_eq_getD_getElem?,List.getD_eq_getElem?_getD];simp
    rw [e]
    exact (h2 j hj).mono (Same.refl _ _) (fun _ _ _=>trivial) (fun _ _ h=>h)
  · rintro e w' ⟨v,rfl,hb,hv⟩
    rw [lit_inv hv]
    exact ⟨rfl,hb⟩
end Go.Proofs.YtendheafcbickaaGreat


set_option linter.unusedVariables false
namespace Go.Proofs.YtendheafcbickaaGreat
open Go.ChangeShapes Go.WideShapes Go.ChangeAt Go.RowKit Go.Deep
def RRange (S:Nat→Prop) (w:World) (cs:List Value) (x:DRange):Prop:=RdC S w (encRange x) cs∧wfRange x
def RFlow (S:Nat→Prop) (w:World) (cs:List Value) (x:DFlow):Prop:=RdC S w (encFlow x) cs∧wfFlow x
def RPace (S:Nat→Prop) (w:World) (cs:List Value) (x:DPace):Prop:=RdC S w (encPace x) cs∧wfPace x
def RTally (S:Nat→Prop) (w:World) (cs:List Value) (x:DTally):Prop:=RdC S w (encTally x) cs∧wfTally x
def RPiece (S:Nat→Prop) (w:World) (cs:List Value) (x:DPiece):Prop:=RdC S w (encPiece x) cs∧wfPiece x
def RGather (S:Nat→Prop) (w:World) (cs:List Value) (x:DGather):Prop:=RdC S w (encGather x) cs∧wfGather x
def RSender (S:Nat→Prop) (w:World) (cs:List Value) (x:DSender):Prop:=RdC S w (encSender x) cs∧wfSender x
def RFrame (S:Nat→Prop) (w:World) (cs:List Value) (x:DFrame):Prop:=RdC S w (encFrame x) cs∧wfFrame x
def RHead (S:Nat→Prop) (w:World) (cs:List Value) (x:DHead):Prop:=RdC S w (encHead x) cs∧wfHead x
def RParcel (S:Nat→Prop) (w:World) (cs:List Value) (x:DParcel):Prop:=RdC S w (encParcel x) cs∧wfParcel x
def RSpace (S:Nat→Prop) (w:World) (cs:List Value) (x:DSpace):Prop:=RdC S w (encSpace x) cs∧wfSpace x
def RLane (S:Nat→Prop) (w:World) (cs:List Value) (x:DLane):Prop:=RdC S w (encLane x) cs∧wfLane x
def RConn (S:Nat→Prop) (w:World) (cs:List Value) (x:DConn):Prop:=RdC S w (encConn x) cs∧wfConn x
def RNote (S:Nat→Prop) (w:World) (cs:List Value) (x:DNote):Prop:=RdC S w (encNote x) cs∧wfNote x
def RMail (S:Nat→Prop) (w:World) (cs:List Value) (x:DMail):Prop:=RdC S w (encMail x) cs∧wfMail x
def RClient (S:Nat→Prop) (w:World) (cs:List Value) (x:DClient):Prop:=RdC S w (encClient x) cs∧wfClient x
def RAct (S:Nat→Prop) (w:World) (cs:List Value) (x:DAct):Prop:=RdC S w (encAct x) cs∧wfAct x
def RLetter (S:Nat→Prop) (w:World) (cs:List Value) (x:DLetter):Prop:=RdC S w (encLetter x) cs∧wfLetter x
end Go.Proofs.YtendheafcbickaaGreat


set_option linter.unusedVariables false
set_option linter.unusedSimpArgs false
set_option linter.unusedVariables false
namespace Go.Proofs.YtendheafcbickaaGreat.U
open Go.ChangeShapes Go.WideShapes Go.ChangeAt Go.RowKit Go.Deep
def Cells (P:Program) (W:World) (t:TypeId) (cs:List Value):Prop:=
  ∃ (H:Type) (enc:TypeId×Value→H) (fuel:Nat) (x:DataW H×List MemPlace),
    DataW.trod enc P W 0 (fun _=>true) true fuel t cs=some x∧Rows.uptoBulk x.1≤1048576
def ArgIs (P:Program) (W:World) (t:TypeId) (v:Value):Prop:=
  (∃ base,Value.okWide P W .any base t v)∧Cells P W t v.cells.toList
def ArgsAre (P:Program) (W:World):List TypeId→List Value→Prop
  | [],vs=>vs=[]
  | t :: ts,vs=>∃ v vs',vs=v :: vs' ∧ ArgIs P W t v∧ArgsAre P W ts vs'
section
variable {P:Program} {W:World} {t e:TypeId} {v:Value} {cs:List Value}
theorem Cells.int_ {k:IntKind} (hu:P.underlying t=some (.int k)) (h:Cells P W t cs):∃ n,cs=[.int k n]∧(Lit.int k n).wf=true:=by
  obtain ⟨H,enc,fuel,x,hx,_⟩:=h
  obtain ⟨n,h1,_,h3⟩:=DataW.trod_int hu hx
  exact ⟨n,h1,h3⟩
theorem Cells.bool_ (hu:P.underlying t=some .bool) (h:Cells P W t cs):∃ b:Bool,cs=[.bool b]:=by
  obtain ⟨H,enc,fuel,x,hx,_⟩:=h
  obtain ⟨n,h1,_⟩:=DataW.trod_bool hu hx
  exact ⟨n,h1⟩
theorem bulk_mem {H:Type}:∀ {ds:List (DataW H)} {d:DataW H},d ∈ ds→Rows.uptoBulk d≤Rows.uptoBulkAll ds
  | [],_,h=>by cases h
  | d0 :: ds,d,h=>by
    simp only [Rows.uptoBulkAll]
    rcases List.mem_cons.1 h with rfl|h
    · omega
    · have:=bulk_mem h;omega
theorem bulk_one {H:Type} (d:DataW H):1≤Rows.uptoBulk d:=by
  cases d with
  | lit l=>cases l <;> simp [Rows.uptoBulk]
  | _=>simp [Rows.uptoBulk]
theorem bulk_length {H:Type}:∀ (l:List (DataW H)),l.length≤Rows.uptoBulkAll l
  | []=>by simp [Rows.uptoBulkAll]
  | x :: r=>by
    have h1:=bulk_one x
    have h2:=bulk_length r
    simp only [Rows.uptoBulkAll,List.length_cons];omega
theorem Cells.slice_ (hu:P.underlying t=some (.slice e)) (h:Cells P W t cs) :
    (cs=[.slice none 0 0]) ∨ ∃ (a:Addr) (len cap:Nat),cs=[.slice (some a) len cap]∧len≤cap∧cap≤maxLen∧cap≤1048576 ∧
      ∀ i,i<cap → ∃ es,es.length=P.cellsOf e∧(∀ j,j<P.cellsOf e→W.cell? ((a.add (i * P.cellsOf e)).add j)=es[j]?)∧Cells P W e es:=by
  obtain ⟨H,enc,fuel,x,hx,hw⟩:=h
  rcases open_slice hu hx with h0 | ⟨a,len,cap,m,n,D,Pl,hcs,_,hl,hm,hmm,hxx,hi⟩
  · exact .inl h0.1
  · simp only [if_true] at hmm
    subst hmm
    subst hxx
    refine .inr ⟨a,len,m,hcs,hl,hm,?_,fun i him=>?_⟩
    · simp only [Rows.uptoBulk] at hw
      have k1:=bulk_length ((List.range len).map D)
      have k2:=bulk_length ((List.range (m - len)).map fun i=>D (len+i))
      simp only [List.length_map,List.length_range] at k1 k2
      omega
    · obtain ⟨es,hc,ht⟩:=hi i him
      obtain ⟨_,hl',hat⟩:=World.cells?_some hc
      refine ⟨es,hl',hat,H,enc,n,_,ht,?_⟩
      simp only [Rows.uptoBulk] at hw
      by_cases hil:i<len
      · have:=bulk_mem (H:=H) (ds:=(List.range len).map D) (d:=D i) (List.mem_map.2 ⟨i,List.mem_range.2 hil,rfl⟩)
        dsimp only
        omega
      · have:=bulk_mem (H:=H) (ds:=(List.range (m - len)).map fun j=>D (len+j)) (d:=D i) (List.mem_map.2 ⟨i - len,List.mem_range.2 (show i - len<m - len by omega),by rw [show len+(i - len)=i by omega]⟩)
        dsimp only
        omega
theorem Cells.struct_ {fs:Array Field} (hu:P.underlying t=some (.struct fs)) (h:Cells P W t cs) :
    cs.length=P.cellsOf t ∧ ∀ (i:Nat) (f:Field),fs[i]? = some f→Cells P W f.type ((cs.drop f.offset).take (P.cellsOf f.type)):=by
  obtain ⟨H,enc,fuel,x,hx,hw⟩:=h
  obtain ⟨xs,n,_,rfl,hl,hlen,hf⟩:=DataW.trod_struct hu hx
  refine ⟨hl,fun i f hi=>?_⟩
  have hlt:i<xs.length:=by rw [hlen];exact (Array.getElem?_eq_some_iff.1 hi).1
  have h1:=hf i f hi
  rw [List.getElem?_eq_getElem hlt] at h1
  refine ⟨H,enc,n,_,h1,?_⟩
  simp only [Rows.uptoBulk] at hw
  have:=bulk_mem (H:=H) (ds:=xs.map (·.1)) (d:=xs[i].1) (List.mem_map.2 ⟨xs[i],List.getElem_mem hlt,rfl⟩)
  omega
theorem Cells.array_ {n:Nat} (hu:P.underlying t=some (.array n e)) (h:Cells P W t cs) :
    cs.length=P.cellsOf t ∧ ∀ i,i<n→Cells P W e ((cs.drop (i * P.cellsOf e)).take (P.cellsOf e)):=by
  obtain ⟨H,enc,fuel,x,hx,hw⟩:=h
  obtain ⟨xs,m,_,rfl,hl,hlen,hf⟩:=DataW.trod_array hu hx
  refine ⟨hl,fun i hi=>?_⟩
  have hlt:i<xs.length:=by omega
  have h1:=hf i hi
  rw [List.getElem?_eq_getElem hlt] at h1
  refine ⟨H,enc,m,_,h1,?_⟩
  simp only [Rows.uptoBulk] at hw
  have:=bulk_mem (H:=H) (ds:=xs.map (·.1)) (d:=xs[i].1) (List.mem_map.2 ⟨xs[i],List.getElem_mem hlt,rfl⟩)
  omega
theorem ArgIs.int_ {k:IntKind} (hu:P.underlying t=some (.int k)) (h:ArgIs P W t v):∃ n,v = .int k n∧(Lit.int k n).wf=true:=by
  obtain ⟨⟨b,hb⟩,hc⟩:=h
  obtain ⟨n,rfl⟩:=okWide_int hu hb
  obtain ⟨n',h1,h2⟩:=hc.int_ hu
  simp [Value.cells] at h1
  subst h1
  exact ⟨n,rfl,h2⟩
theorem ArgIs.slice_ (hu:P.underlying t=some (.slice e)) (h:ArgIs P W t v):∃ a n c,v = .slice a n c∧Cells P W t [.slice a n c]:=by
  obtain ⟨⟨b,hb⟩,hc⟩:=h
  obtain ⟨a,n,c,rfl⟩:=okWide_slice hu hb
  exact ⟨a,n,c,rfl,by simpa [Value.cells] using hc⟩
theorem ArgIs.struct_ {fs:Array Field} (hu:P.underlying t=some (.struct fs)) (h:ArgIs P W t v):∃ cs:List Value,v = .agg cs.toArray∧Cells P W t cs:=by
  obtain ⟨⟨b,hb⟩,hc⟩:=h
  obtain ⟨cs,rfl,_⟩:=okWide_struct hu hb
  exact ⟨cs.toList,by simp,by simpa [Value.cells] using hc⟩
end
theorem argsAre_of {H:Type} {enc:TypeId×Value→H} {P:Program} {W:World} :
    ∀ {ts:List TypeId} {vs:List Value} {ds:List (DataW H)} {ps:List MemPlace},(∀ (j:Nat) t v,ts[j]? = some t→vs[j]? = some v → ∃ base,Value.okWide P W .any base t v) →
      Rows.uptoBulkAll ds≤1048576→DataW.TrodAll enc P W 0 (fun _=>true) true ts vs ds ps→ArgsAre P W ts vs
  | [],vs,ds,ps,_,_,h=>by cases vs <;> cases ds <;> simp_all [DataW.TrodAll,ArgsAre]
  | t :: ts,vs,ds,ps,hv,hw,h=>by
    obtain ⟨v,vs',d,ds',p,q,rfl,rfl,rfl,h1,h2⟩:=trodAll_cons h
    refine ⟨v,vs',rfl,⟨hv 0 t v rfl rfl,?_⟩,argsAre_of (fun j t' v' h3 h4=>hv (j+1) t' v' (by simpa using h3) (by simpa using h4)) (by simp only [Rows.uptoBulkAll] at hw;omega) h2⟩
    obtain ⟨m,hm⟩:=h1
    exact ⟨H,enc,m,_,hm,by simp only [Rows.uptoBulkAll] at hw;dsimp only;omega⟩
theorem law_lifted {C:Checked} {os:Os} {f:FuncId} {fn:Func} {s:ChangeSpec} {tb:TypeId} {H:Type} {enc:TypeId×Value→H} {F:Stop.Interp}
    (own:ownKnob C.prog.godebug=none) (started:os.Started) (noInit:C.prog.inits.idxOf? f=none) (hfn:C.prog.funcs[f]? = some fn)
    (witness:∃ (w:World) (tape:Tape) (i:Input),w.os=os∧(w.forCall tape i).Shaped C.prog∧i.vars=[]∧Input.okWide C.prog (w.forCall tape i) .any w.heap.size f i ∧
      (Rows.OpenSpec.upto s).pre6 enc C.prog fn [] false (w.forCall tape i).memory i.args∧({}:Assume).holds C.prog (lone (Frame.enter C.prog f i.args .normal) [] (w.forCall tape i)))
    (hl:laidOutB C.prog=true) (hvars:s.vars=[]) (hspec:∀ ds:List (DataW H),ds.length=fn.params.size→s.fn H ds={ results:=[.lit (.bool true)],args:=ds })
    (hres:fn.resultTypes = #[tb]) (hb:C.prog.underlying tb=some .bool) (hreadB:(fn.params.toList.all fun t=>C.prog.readableRec t && decide (t<C.prog.types.size))=true)
    (walk:∀ (W:World) (args:Array Value),ArgsAre C.prog W fn.params.toList args.toList→Calls C.prog f args W fun e W'=>e = .returned (.bool true)∧Below W.heap.size W W') :
    ReturnsInHanded {} C os f .any ((Rows.OpenSpec.upto s).pre6 enc C.prog fn [] false) (((Rows.OpenSpec.upto s).at F).post enc C.prog fn false true false false):=by
  refine returnsInHanded_of_cond_sized (s:=Rows.OpenSpec.upto s) (k:=Rows.uptoSmall) rfl own started noInit hfn witness ?_
  have hread:∀ t ∈ fn.params.toList,C.prog.readableRec t=true∧t<C.prog.types.size:=fun t ht=>by
    have:=List.all_eq_true.1 hreadB t ht
    simpa using this
  intro W base args ds gs before hval hW _ hk _ _
  have hW':=hW
  obtain ⟨p,q,hA,hV,rfl,hfz,hnd⟩:=hW
  have hvars':(Rows.OpenSpec.upto s).vars=[]:=hvars
  rw [hvars'] at hV
  obtain ⟨rfl,rfl⟩:=trodVars_none hV
  have hlen:ds.length=fn.params.size:=by
    have:∀ (ts:List TypeId) (vs:List Value) (ds:List (DataW H)) (ps:List MemPlace),DataW.TrodAll enc C.prog W 0 (fun _=>true) true ts vs ds ps→ds.length=ts.length:=by
      intro ts
      induction ts with
      | nil=>intro vs ds ps h;cases vs <;> cases ds <;> simp_all [DataW.TrodAll]
      | cons t ts ih=>
        intro vs ds ps h
        obtain ⟨v,vs',d,ds',p,q,rfl,rfl,rfl,h1,h2⟩:=trodAll_cons h
        simp [ih _ _ _ h2]
    simpa using this _ _ _ _ hA
  have hk':Rows.uptoSmall H ds=true:=by rw [List.append_nil] at hk;exact hk
  have hargs:ArgsAre C.prog W fn.params.toList args.toList:=argsAre_of (fun j t v h1 h2=>⟨base,hval j t v (by simpa using h1) (by simpa using h2)⟩) (of_decide_eq_true hk') hA
  refine (walk W args hargs).mono fun e W' ⟨he,bel⟩=>?_
  subst he
  have hsp:((Rows.OpenSpec.upto s).at F).fn H (ds++[])={ results:=[.lit (.bool true)],args:=ds++[] }:=hspec (ds++[]) (by simpa using hlen)
  refine ⟨_,rfl,ds,[],_,[],p,[],hW',?_,?_,?_,bel.frame _,fun h=>by cases h⟩
  · rw [hsp,hres]
    exact trodAll_mk1 (shut_bool hb _)
  · rw [hsp]
    simp only [List.append_nil]
    exact trodAll_below hl bel hread hA
  · have hv2:((Rows.OpenSpec.upto s).at F).vars=[]:=hvars
    rw [hv2,hsp]
    rfl
end Go.Proofs.YtendheafcbickaaGreat.U


set_option linter.unusedVariables false
set_option linter.unusedSimpArgs false
set_option linter.unusedVariables false
namespace Go.Proofs.YtendheafcbickaaGreat.U
open Go.ChangeShapes Go.WideShapes Go.ChangeAt Go.RowKit Go.Deep
theorem rdB_of_cells {P:Program} {W:World} {t:TypeId} {S:Nat→Prop} (hu:P.underlying t=some (.int .u8)) (es:List Value) (h:Cells P W t es):∃ x,RdC S W (encB x) es∧True:=by
  obtain ⟨n,rfl,hw⟩:=h.int_ hu
  have:=bounds_u8 hw
  refine ⟨UInt8.ofNat n.toNat,rdc ?_ rd0,trivial⟩
  have e:((UInt8.ofNat n.toNat).toNat:Int)=n:=by
    rw [UInt8.toNat_ofNat'];omega
  rw [e];exact .lit _ rfl
theorem rdI_of_cells {P:Program} {W:World} {t:TypeId} {S:Nat→Prop} (hu:P.underlying t=some (.int .i64)) (es:List Value) (h:Cells P W t es):∃ x,RdC S W (encI x) es∧I64 x:=by
  obtain ⟨n,rfl,hw⟩:=h.int_ hu
  exact ⟨n,rdc (.lit _ rfl) rd0,i64_of_wf hw⟩
theorem rd_of_slice {α:Type} {P:Program} {W:World} {t e:TypeId} {v:Value} {enc:α→List V} {wf:α→Prop} {size bytes:Nat}
    (hu:P.underlying t=some (.slice e)) (hs:P.cellsOf e=size) (hb:P.bytesOf e=bytes) (hpos:0<size)
    (hR:∀ es,Cells P W e es → ∃ x,RdC (fun b=>b<W.heap.size) W (enc x) es∧wf x) (h:Cells P W t [v]) :
    ∃ l:List α,PRel (fun b=>b<W.heap.size) W (.ro (l.map enc)) v∧l.length * bytes≤bytes * 1048576 ∧ ∀ y,y ∈ l→wf y:=by
  rcases h.slice_ hu with h0 | ⟨a,len,cap,hv,hl,hmax,hc,he⟩
  · injection h0 with h0 _
    subst h0
    exact ⟨[],.ro [] none 0 1 0 0 (fun _ _=>undef) (Nat.le_refl _) (by unfold maxLen;omega) (by omega) (fun h=>by simp at h) (fun i hi=>by simp at hi) (fun i j hi=>by simp at hi) (fun i j hi=>by simp at hi),by simp,fun y hy=>by simp at hy⟩
  · injection hv with hv _
    subst hv
    rw [hs] at he
    have hx:∀ i,i<len → ∃ x es,es.length=size∧(∀ j,j<size→W.cell? ((a.add (i * size)).add j)=es[j]?)∧RdC (fun b=>b<W.heap.size) W (enc x) es∧wf x:=fun i hi=>by
      obtain ⟨es,h1,h2,h3⟩:=he i (by omega)
      obtain ⟨x,hx,hw⟩:=hR es h3
      exact ⟨x,es,h1,h2,hx,hw⟩
    have hl':∃ l:List α,l.length=len∧(∀ i (h:i<l.length),∃ es,es.length=size∧(∀ j,j<size→W.cell? ((a.add (i * size)).add j)=es[j]?)∧RdC (fun b=>b<W.heap.size) W (enc l[i]) es) ∧ ∀ y,y ∈ l→wf y:=by
      clear hl hc he h
      induction len with
      | zero=>exact ⟨[],rfl,fun i hi=>by simp at hi,fun y hy=>by simp at hy⟩
      | succ n ih=>
        obtain ⟨l,hl,hl2,hl3⟩:=ih (fun i hi=>hx i (by omega))
        obtain ⟨x,es,h1,h2,h3,h4⟩:=hx n (by omega)
        refine ⟨l++[x],by simp [hl],fun i hi=>?_,fun y hy=>?_⟩
        · simp at hi
          by_cases hin:i<l.length
          · rw [List.getElem_append_left hin]
            exact hl2 i hin
          · have:i=n:=by omega
            subst this
            refine ⟨es,h1,h2,?_⟩
            rw [List.getElem_append_right (by omega)]
            simpa [hl] using h3
        · simp at hy
          rcases hy with hy|rfl
          · exact hl3 y hy
          · exact h4
    obtain ⟨l,hll,hl2,hl3⟩:=hl'
    subst hll
    have hlb:l.length * bytes≤bytes * 1048576:=by rw [Nat.mul_comm bytes];exact Nat.mul_le_mul_right _ (Nat.le_trans hl hc)
    refine ⟨l,?_,hlb,hl3⟩
    by_cases h0:0<l.length
    · obtain ⟨es0,g1,g2,_⟩:=hl2 0 h0
      have hsp:a.spot=none:=by
        have g:=g2 0 hpos
        rw [List.getElem?_eq_getElem (by omega)] at g
        have:=World.cell?_spot g
        simpa [Addr.add] using this
      obtain ⟨b,off,spot⟩:=a
      simp only at hsp
      subst hsp
      simp only [add_addr] at hl2 g2
      have hlt:b<W.heap.size:=by
        have g:=g2 0 hpos
        rw [List.getElem?_eq_getElem (by omega)] at g
        exact cell_lt g
      have hsz:∀ i (h:i<l.length),(enc l[i]).length=size:=fun i hi=>by
        obtain ⟨es,q1,q2,q3⟩:=hl2 i hi
        rw [← q3.1,q1]
      have hmap:∀ i (h:i<l.length),eAt (l.map enc) i=enc l[i]:=fun i hi=>by
        unfold eAt
        rw [List.getD_eq_getElem?_getD,List.getElem?_map,List.getElem?_eq_getElem hi];rfl
      have:PRel (fun b=>b<W.heap.size) W (.ro (l.map enc)) (.slice (some ⟨b,off,none⟩) (l.map enc).length cap):=by
        refine .ro _ _ cap size b off (fun i j=>(W.cell? ⟨b,off+i * size+j,none⟩).getD undef) (by simpa using hl) hmax hpos (fun _=>⟨rfl,hlt⟩) (fun i hi=>?_) (fun i j hi hj=>?_) (fun i j hi hj=>?_)
        · rw [List.length_map] at hi;rw [hmap i hi];exact hsz i hi
        · rw [List.length_map] at hi
          obtain ⟨es,q1,q2,q3⟩:=hl2 i hi
          rw [q2 j hj,List.getElem?_eq_getElem (by omega)];rfl
        · rw [List.length_map] at hi
          obtain ⟨es,q1,q2,q3⟩:=hl2 i hi
          rw [hmap i hi,q2 j hj]
          have:=q3.2 j (by rw [hsz i hi];exact hj)
          rwa [List.getD_eq_getElem?_getD] at this
      rwa [List.length_map] at this
    · have hn:l=[]:=List.eq_nil_of_length_eq_zero (by omega)
      subst hn
      exact .ro [] (some a) cap 1 0 0 (fun _ _=>undef) (by simp) hmax (by omega) (fun h=>by simp at h) (fun i hi=>by simp at hi) (fun i j hi=>by simp at hi) (fun i j hi=>by simp at hi)
end Go.Proofs.YtendheafcbickaaGreat.U
