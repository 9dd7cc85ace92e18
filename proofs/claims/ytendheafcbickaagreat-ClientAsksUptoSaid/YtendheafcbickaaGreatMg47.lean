/-
  SEVERAL TEXTS IN ONE: each with its own comment.
-/
import Derived.Test.YtendheafcbickaaGreatZip
import Derived.Test.YtendheafcbickaaGreatGo
import Derived.Test.YtendheafcbickaaGreatSameSpace
import Derived.Test.YtendheafcbickaaGreatMg12
import Derived.Test.YtendheafcbickaaGreatMg20
import Derived.Test.YtendheafcbickaaGreatRows
import Derived.WalkKit
import Derived.ProofKit
import Derived.WalkSpells
import Derived.WalkLawsBesides
import Derived.OpenShut
import Derived.ShutString
import Derived.ChangeOld
import Derived.Below
import Derived.SizedLaws
import Derived.Deep.Slices
import Derived.Test.YtendheafcbickaaGreatEnc

set_option linter.unusedVariables false
set_option linter.unusedSimpArgs false
set_option linter.unusedVariables false
namespace Go.Proofs.YtendheafcbickaaGreat
set_option maxRecDepth 100000
attribute [local irreducible] Run RunL QStep GStep Fn Less PL FnM
set_option maxHeartbeats 4000000 in
theorem sameConn_refl (c:DConn) (hw:wfConn c):Fn Tryz.prog 24 [.agg (encConn c),.agg (encConn c)] (.lit (.bool true)):=by
  obtain ⟨w0,w1,w2,w3,w4,w5,w6,w7,w8,w9,w10,w11,w12,w13⟩:=hw
  have h1:=sameSpace_fn c.Space c.Space w0 w0
  have h2:=sameFrames_fn c.Queue c.Queue (by omega) (by omega) w10 w10
  rw [yes_of rfl] at h1 h2
  have hll:c.Lanes.length≤1000000000000000:=by omega
  clear w0 w1 w2 w3 w4 w5 w6 w9 w10 w11 w12 w13
  obtain ⟨b0,space,pace,flow,credit,ids,grant,opened,lanes,b1,queue,last,resets,b2,code⟩:=c
  dsimp only at *
  generalize hC:encConn ⟨b0,space,pace,flow,credit,ids,grant,opened,lanes,b1,queue,last,resets,b2,code⟩=C
  unfold encConn at hC
  dsimp only at hC
  subst hC
  refine fn_of_run (by kernel_rfl) Tryz.func24 rfl (by kernel_rfl) ?_
  refine r_seq ?_
  refine r_region ?_
  (repeat' first|(refine goS_ ?_;((repeat' first|exact True.intro|refine Two.mk ?_ ?_);all_goals intros))|fail "")
  refine thenQ_n ?_
  refine r_cut (fun _:Unit=>⟨[(2,.ptr 0 0 0 0),(3,.ptr 1 0 0 0),(5,.lit (.bool true))],[(0,some (.box 51 [.lit (.bool b0),.lit (.int .i64 space.Next),.ro (space.Sent.map encParcel),.lit (.int .i64 space.Top),.ro (space.Heard.map encRange),.ro (space.Skip.map encI),.lit (.int .i64 pace.Window),.lit (.int .i64 pace.Thresh),.lit (.int .i64 pace.Flying),.lit (.int .i64 pace.Since),.lit (.int .i64 flow.Max),.lit (.int .i64 flow.Used),.lit (.int .i64 credit.Max),.lit (.int .i64 credit.Used),.lit (.int .i64 ids),.lit (.int .i64 grant),.lit (.int .i64 opened),.ro (lanes.map encLane),.lit (.bool b1),.ro (queue.map encFrame),.lit (.int .i64 last),.lit (.int .i64 resets),.lit (.bool b2),.lit (.int .i64 code)])),(1,some (.box 51 [.lit (.bool b0),.lit (.int .i64 space.Next),.ro (space.Sent.map encParcel),.lit (.int .i64 space.Top),.ro (space.Heard.map encRange),.ro (space.Skip.map encI),.lit (.int .i64 pace.Window),.lit (.int .i64 pace.Thresh),.lit (.int .i64 pace.Flying),.lit (.int .i64 pace.Since),.lit (.int .i64 flow.Max),.lit (.int .i64 flow.Used),.lit (.int .i64 credit.Max),.lit (.int .i64 credit.Used),.lit (.int .i64 ids),.lit (.int .i64 grant),.lit (.int .i64 opened),.ro (lanes.map encLane),.lit (.bool b1),.ro (queue.map encFrame),.lit (.int .i64 last),.lit (.int .i64 resets),.lit (.bool b2),.lit (.int .i64 code)]))],2,Tryz.f24.ntmps⟩) (fun _=>True) ?_ ?_
  · cases b0 <;> cases b1 <;> cases b2
    all_goals (repeat' first|(refine s_call (h1) (h:=?_))|(refine p_call (h1) (h:=?_))|(refine s_call (h2) (h:=?_))|(refine p_call (h2) (h:=?_))|(refine go_ ?_;((repeat' first|exact True.intro|refine Two.mk ?_ ?_);all_goals intros))|fail "")
    all_goals first
      | (refine ⟨(),?_,?_⟩;rotate_left 1;(exact lessA_);(exact Z68_))
      | skip
  rintro ⟨⟩ -
  clear h1 h2
  (repeat' first|(refine go_ ?_;((repeat' first|exact True.intro|refine Two.mk ?_ ?_);all_goals intros))|fail "")
  refine r_for (fun k:Nat=>⟨[(2,.ptr 0 0 0 0),(3,.ptr 1 0 0 0),(5,.lit (.bool true)),(6,.lit (.int .i64 k))],[(0,some (.box 51 [.lit (.bool b0),.lit (.int .i64 space.Next),.ro (space.Sent.map encParcel),.lit (.int .i64 space.Top),.ro (space.Heard.map encRange),.ro (space.Skip.map encI),.lit (.int .i64 pace.Window),.lit (.int .i64 pace.Thresh),.lit (.int .i64 pace.Flying),.lit (.int .i64 pace.Since),.lit (.int .i64 flow.Max),.lit (.int .i64 flow.Used),.lit (.int .i64 credit.Max),.lit (.int .i64 credit.Used),.lit (.int .i64 ids),.lit (.int .i64 grant),.lit (.int .i64 opened),.ro (lanes.map encLane),.lit (.bool b1),.ro (queue.map encFrame),.lit (.int .i64 last),.lit (.int .i64 resets),.lit (.bool b2),.lit (.int .i64 code)])),(1,some (.box 51 [.lit (.bool b0),.lit (.int .i64 space.Next),.ro (space.Sent.map encParcel),.lit (.int .i64 space.Top),.ro (space.Heard.map encRange),.ro (space.Skip.map encI),.lit (.int .i64 pace.Window),.lit (.int .i64 pace.Thresh),.lit (.int .i64 pace.Flying),.lit (.int .i64 pace.Since),.lit (.int .i64 flow.Max),.lit (.int .i64 flow.Used),.lit (.int .i64 credit.Max),.lit (.int .i64 credit.Used),.lit (.int .i64 ids),.lit (.int .i64 grant),.lit (.int .i64 opened),.ro (lanes.map encLane),.lit (.bool b1),.ro (queue.map encFrame),.lit (.int .i64 last),.lit (.int .i64 resets),.lit (.bool b2),.lit (.int .i64 code)]))],2,Tryz.f24.ntmps⟩)
    (fun k=>k≤lanes.length) (fun k=>lanes.length - k) 0 (Nat.zero_le _) (by (exact lessA_)) ?_
  intro k hk
  by_cases hkn:k<lanes.length
  · have hf:=w8 _ (getD_mem hkn)
    have q1:=hf.2.2.2.2.2.2.1
    have q2:=hf.2.2.2.2.2.2.2.2.1
    have h1:=sameGather_fn _ _ hf.2.1 hf.2.1
    have h2:=sameBytes_fn (lanes.getD k default).Read (lanes.getD k default).Read
    have h3:=sameSender_refl (lanes.getD k default).Out q1 q2
    rw [yes_of rfl] at h1 h2
    clear hf w8
    cases hb1:(lanes.getD k default).Over <;> cases hb2:(lanes.getD k default).Cut
    all_goals (repeat' first|(refine s_call (h1) (h:=?_))|(refine p_call (h1) (h:=?_))|(refine s_call (h2) (h:=?_))|(refine p_call (h2) (h:=?_))|(refine s_call (h3) (h:=?_))|(refine p_call (h3) (h:=?_))|(refine go_ ?_;((repeat' first|exact True.intro|refine Two.mk ?_ ?_);all_goals intros))|fail "")
    all_goals first
      | (refine ⟨k+1,?_,?_,?_⟩;rotate_left 2;(exact lessA_);(exact Z69_);(exact Z67_))
      | skip
  · have hkl:k=lanes.length:=by omega
    subst hkl
    (repeat' first|(refine go_ ?_;((repeat' first|exact True.intro|refine Two.mk ?_ ?_);all_goals intros))|fail "")
    all_goals exact ends_ (hr:=rfl)
end Go.Proofs.YtendheafcbickaaGreat


set_option linter.unusedVariables false
set_option linter.unusedSimpArgs false
set_option linter.unusedVariables false
namespace Go.Proofs.YtendheafcbickaaGreat
set_option maxRecDepth 100000
attribute [local irreducible] Run RunL QStep GStep Fn Less PL FnM
set_option maxHeartbeats 4000000 in
theorem sameClient_refl (c:DClient) (hw:wfClient c):Fn Tryz.prog 20 [.agg (encClient c),.agg (encClient c)] (.lit (.bool true)):=by
  have h1:=sameConn_refl c.Conn hw.2.2.2.2.2.2
  have h2:=sameBytes_fn c.Token c.Token
  rw [yes_of rfl] at h2
  clear hw
  refine fn_of_run (by kernel_rfl) Tryz.func20 rfl (by kernel_rfl) ?_
  (repeat' first|(refine s_call (h1) (h:=?_))|(refine p_call (h1) (h:=?_))|(refine s_call (h2) (h:=?_))|(refine p_call (h2) (h:=?_))|(refine go_ ?_;((repeat' first|exact True.intro|refine Two.mk ?_ ?_);all_goals intros))|fail "")
  all_goals first
    | (exact endwA_)
    | skip
end Go.Proofs.YtendheafcbickaaGreat


set_option linter.unusedSimpArgs false
set_option linter.unusedVariables false
namespace Go.Proofs.YtendheafcbickaaGreat
open Go.ChangeShapes Go.WideShapes Go.ChangeAt Go.RowKit Go.Deep
def Cells (P:Program) (W:World) (t:TypeId) (cs:List Value):Prop:=
  ∃ (H:Type) (enc:TypeId×Value→H) (fuel:Nat) (x:DataW H×List MemPlace),
    DataW.trod enc P W 0 (fun _=>true) true fuel t cs=some x ∧ ∀ n ∈ x.1.weights P t,n≤reachBytes
def ArgIs (P:Program) (W:World) (t:TypeId) (v:Value):Prop:=
  (∃ base,Value.okWide P W .any base t v)∧Cells P W t v.cells.toList
def ArgsAre (P:Program) (W:World):List TypeId→List Value→Prop
  | [],vs=>vs=[]
  | t :: ts,vs=>∃ v vs',vs=v :: vs' ∧ ArgIs P W t v∧ArgsAre P W ts vs'
section
variable {P:Program} {W:World} {t e:TypeId} {v:Value} {cs:List Value}
theorem Cells.int_ {k:IntKind} (hu:P.underlying t=some (.int k)) (h:Cells P W t cs):∃ n,cs=[.int k n]∧(Lit.int k n).wf=true:=by
  obtain ⟨H,enc,fuel,x,hx,_⟩:=h
  obtain ⟨n,h1,_,h3⟩:=DataW.trod_int hu hx
  exact ⟨n,h1,h3⟩
theorem Cells.bool_ (hu:P.underlying t=some .bool) (h:Cells P W t cs):∃ b:Bool,cs=[.bool b]:=by
  obtain ⟨H,enc,fuel,x,hx,_⟩:=h
  obtain ⟨n,h1,_⟩:=DataW.trod_bool hu hx
  exact ⟨n,h1⟩
theorem weights_all_mem {H:Type} {P:Program} {e:TypeId}:∀ {ds:List (DataW H)} {d:DataW H},d ∈ ds → ∀ n ∈ d.weights P e,n ∈ DataW.weightsAll P e ds
  | [],_,h,_,_=>by cases h
  | d0 :: ds,d,h,n,hn=>by
    simp only [DataW.weightsAll,List.mem_append]
    rcases List.mem_cons.1 h with rfl|h
    · exact .inl hn
    · exact .inr (weights_all_mem h n hn)
theorem Cells.slice_ (hu:P.underlying t=some (.slice e)) (h:Cells P W t cs) :
    (cs=[.slice none 0 0]) ∨ ∃ (a:Addr) (len cap:Nat),cs=[.slice (some a) len cap]∧len≤cap∧cap≤maxLen∧cap * P.bytesOf e≤reachBytes ∧
      ∀ i,i<cap → ∃ es,es.length=P.cellsOf e∧(∀ j,j<P.cellsOf e→W.cell? ((a.add (i * P.cellsOf e)).add j)=es[j]?)∧Cells P W e es:=by
  obtain ⟨H,enc,fuel,x,hx,hw⟩:=h
  rcases open_slice hu hx with h0 | ⟨a,len,cap,m,n,D,Pl,hcs,_,hl,hm,hmm,hxx,hi⟩
  · exact .inl h0.1
  · simp only [if_true] at hmm
    subst hmm
    subst hxx
    refine .inr ⟨a,len,m,hcs,hl,hm,?_,fun i him=>?_⟩
    · have:=hw ((len+(m - len)) * P.bytesOf e) (by simp [DataW.weights,hu])
      rwa [show len+(m - len)=m by omega] at this
    · obtain ⟨es,hc,ht⟩:=hi i him
      obtain ⟨_,hl',hat⟩:=World.cells?_some hc
      refine ⟨es,hl',hat,H,enc,n,_,ht,fun n' hn'=>hw n' ?_⟩
      simp only [DataW.weights,hu,List.mem_cons,List.mem_append]
      right
      by_cases hil:i<len
      · exact .inl (weights_all_mem (List.mem_map.2 ⟨i,List.mem_range.2 hil,rfl⟩) _ hn')
      · exact .inr (weights_all_mem (List.mem_map.2 ⟨i - len,List.mem_range.2 (by omega),by rw [show len+(i - len)=i by omega]⟩) _ hn')
theorem Cells.struct_ {fs:Array Field} (hu:P.underlying t=some (.struct fs)) (h:Cells P W t cs) :
    cs.length=P.cellsOf t ∧ ∀ (i:Nat) (f:Field),fs[i]? = some f→Cells P W f.type ((cs.drop f.offset).take (P.cellsOf f.type)):=by
  obtain ⟨H,enc,fuel,x,hx,hw⟩:=h
  obtain ⟨xs,n,_,rfl,hl,hlen,hf⟩:=DataW.trod_struct hu hx
  refine ⟨hl,fun i f hi=>?_⟩
  have hlt:i<xs.length:=by rw [hlen];exact (Array.getElem?_eq_some_iff.1 hi).1
  have h1:=hf i f hi
  rw [List.getElem?_eq_getElem hlt] at h1
  refine ⟨H,enc,n,_,h1,fun n' hn'=>hw n' ?_⟩
  simp only [DataW.weights,hu]
  exact DataW.weights_mem_each (j:=i) (t:=f.type) (d:=xs[i].1) (by simp [← Array.getElem?_toList] at hi ⊢;exact ⟨f,hi,rfl⟩) (by simp [hlt]) _ hn'
theorem ArgIs.int_ {k:IntKind} (hu:P.underlying t=some (.int k)) (h:ArgIs P W t v):∃ n,v = .int k n∧(Lit.int k n).wf=true:=by
  obtain ⟨⟨b,hb⟩,hc⟩:=h
  obtain ⟨n,rfl⟩:=okWide_int hu hb
  obtain ⟨n',h1,h2⟩:=hc.int_ hu
  simp [Value.cells] at h1
  subst h1
  exact ⟨n,rfl,h2⟩
theorem ArgIs.bool_ (hu:P.underlying t=some .bool) (h:ArgIs P W t v):∃ b:Bool,v = .bool b:=by
  obtain ⟨⟨b,hb⟩,hc⟩:=h
  exact okWide_bool hu hb
theorem ArgIs.slice_ (hu:P.underlying t=some (.slice e)) (h:ArgIs P W t v):∃ a n c,v = .slice a n c∧Cells P W t [.slice a n c]:=by
  obtain ⟨⟨b,hb⟩,hc⟩:=h
  obtain ⟨a,n,c,rfl⟩:=okWide_slice hu hb
  exact ⟨a,n,c,rfl,by simpa [Value.cells] using hc⟩
theorem ArgIs.struct_ {fs:Array Field} (hu:P.underlying t=some (.struct fs)) (h:ArgIs P W t v):∃ cs:List Value,v = .agg cs.toArray∧Cells P W t cs:=by
  obtain ⟨⟨b,hb⟩,hc⟩:=h
  obtain ⟨cs,rfl,_⟩:=okWide_struct hu hb
  exact ⟨cs.toList,by simp,by simpa [Value.cells] using hc⟩
end
theorem trodAll_below {H:Type} {enc:TypeId×Value→H} {P:Program} (hl:laidOutB P=true) {W W':World} (hb:Below W.heap.size W W') :
    ∀ {ts:List TypeId} {vs:List Value} {ds:List (DataW H)} {ps:List MemPlace},(∀ t ∈ ts,P.readableRec t=true∧t<P.types.size) →
      DataW.TrodAll enc P W 0 (fun _=>true) true ts vs ds ps→DataW.TrodAll enc P W' 0 (fun b=>decide (b<W.heap.size)) true ts vs ds ps
  | [],vs,ds,ps,_,h=>by cases vs <;> cases ds <;> simp_all [DataW.TrodAll]
  | t :: ts,vs,ds,ps,hr,h=>by
    obtain ⟨v,vs',d,ds',p,q,rfl,rfl,rfl,h1,h2⟩:=trodAll_cons h
    have hlt:∀ x ∈ p,x.block<W.heap.size:=by
      obtain ⟨m,hm⟩:=h1
      exact DataW.trod_lt m _ _ _ hm
    exact trodAll_cons_mk (Below.trod hl (hr t (by simp)).1 (hr t (by simp)).2 h1 hb hlt) (trodAll_below hl hb (fun t' ht=>hr t' (by simp [ht])) h2)
theorem argsAre_of {H:Type} {enc:TypeId×Value→H} {P:Program} {W:World} :
    ∀ {ts:List TypeId} {vs:List Value} {ds:List (DataW H)} {ps:List MemPlace},(∀ (j:Nat) t v,ts[j]? = some t→vs[j]? = some v → ∃ base,Value.okWide P W .any base t v) →
      (∀ n ∈ DataW.weightsEach P ts ds,n≤reachBytes)→DataW.TrodAll enc P W 0 (fun _=>true) true ts vs ds ps→ArgsAre P W ts vs
  | [],vs,ds,ps,_,_,h=>by cases vs <;> cases ds <;> simp_all [DataW.TrodAll,ArgsAre]
  | t :: ts,vs,ds,ps,hv,hw,h=>by
    obtain ⟨v,vs',d,ds',p,q,rfl,rfl,rfl,h1,h2⟩:=trodAll_cons h
    refine ⟨v,vs',rfl,⟨hv 0 t v rfl rfl,?_⟩,argsAre_of (fun j t' v' h3 h4=>hv (j+1) t' v' (by simpa using h3) (by simpa using h4)) (fun n hn=>hw n (by simp [DataW.weightsEach,hn])) h2⟩
    obtain ⟨m,hm⟩:=h1
    exact ⟨H,enc,m,_,hm,fun n hn=>hw n (by simp [DataW.weightsEach,hn])⟩
theorem law_lifted {C:Checked} {os:Os} {f:FuncId} {fn:Func} {s:ChangeSpec} {tb:TypeId} {H:Type} {enc:TypeId×Value→H}
    (own:ownKnob C.prog.godebug=none) (started:os.Started) (noInit:C.prog.inits.idxOf? f=none) (hfn:C.prog.funcs[f]? = some fn)
    (witness:∃ (w:World) (tape:Tape) (i:Input),w.os=os∧(w.forCall tape i).Shaped C.prog∧i.vars=[]∧Input.okWide C.prog (w.forCall tape i) .any w.heap.size f i ∧
      s.pre6 enc C.prog fn [] false (w.forCall tape i).memory i.args∧({}:Assume).holds C.prog (lone (Frame.enter C.prog f i.args .normal) [] (w.forCall tape i)))
    (hl:laidOutB C.prog=true) (hvars:s.vars=[]) (hspec:∀ ds:List (DataW H),ds.length=fn.params.size→s.fn H ds={ results:=[.lit (.bool true)],args:=ds })
    (hres:fn.resultTypes = #[tb]) (hb:C.prog.underlying tb=some .bool) (hreadB:(fn.params.toList.all fun t=>C.prog.readableRec t && decide (t<C.prog.types.size))=true)
    (walk:∀ (W:World) (args:Array Value),ArgsAre C.prog W fn.params.toList args.toList→Calls C.prog f args W fun e W'=>e = .returned (.bool true)∧Below W.heap.size W W') :
    ReturnsInHanded {} C os f .any (s.pre6 enc C.prog fn [] false) (s.post enc C.prog fn false true false false):=by
  refine returnsInHanded_of_change_sized own started noInit hfn witness ?_
  have hread:∀ t ∈ fn.params.toList,C.prog.readableRec t=true∧t<C.prog.types.size:=fun t ht=>by
    have:=List.all_eq_true.1 hreadB t ht
    simpa using this
  intro W base args ds gs before hval hW _ hsz _
  have hW':=hW
  obtain ⟨p,q,hA,hV,rfl,hfz,hnd⟩:=hW
  rw [hvars] at hV
  obtain ⟨rfl,rfl⟩:=trodVars_none hV
  have hlen:ds.length=fn.params.size:=by
    have:∀ (ts:List TypeId) (vs:List Value) (ds:List (DataW H)) (ps:List MemPlace),DataW.TrodAll enc C.prog W 0 (fun _=>true) true ts vs ds ps→ds.length=ts.length:=by
      intro ts
      induction ts with
      | nil=>intro vs ds ps h;cases vs <;> cases ds <;> simp_all [DataW.TrodAll]
      | cons t ts ih=>
        intro vs ds ps h
        obtain ⟨v,vs',d,ds',p,q,rfl,rfl,rfl,h1,h2⟩:=trodAll_cons h
        simp [ih _ _ _ h2]
    simpa using this _ _ _ _ hA
  have hsz':∀ n ∈ DataW.weightsEach C.prog fn.params.toList ds,n≤reachBytes:=by
    have hv:s.plain.varTypes C.prog=[]:=by simp [ChangeSpec.plain,DataSpec.varTypes,hvars]
    rw [hv] at hsz
    simpa using hsz
  have hargs:ArgsAre C.prog W fn.params.toList args.toList:=argsAre_of (fun j t v h1 h2=>⟨base,hval j t v (by simpa using h1) (by simpa using h2)⟩) hsz' hA
  refine (walk W args hargs).mono fun e W' ⟨he,bel⟩=>?_
  subst he
  have hsp:=hspec (ds++[]) (by simpa using hlen)
  refine ⟨_,rfl,ds,[],_,[],p,[],hW',?_,?_,?_,bel.frame _,fun h=>by cases h⟩
  · rw [hsp,hres]
    exact trodAll_mk1 (shut_bool hb _)
  · rw [hsp]
    simp only [List.append_nil]
    exact trodAll_below hl bel hread hA
  · rw [hvars,hsp]
    rfl
end Go.Proofs.YtendheafcbickaaGreat


set_option linter.unusedVariables false
set_option linter.unusedSimpArgs false
set_option linter.unusedVariables false
namespace Go.Proofs.YtendheafcbickaaGreat
open Go.ChangeShapes Go.WideShapes Go.ChangeAt Go.RowKit Go.Deep
theorem i64_of_wf {x:Int} (h:(Lit.int .i64 x).wf=true):I64 x:=bounds_i64 h
theorem u64_of_wf {x:Int} (h:(Lit.int .u64 x).wf=true):U64 x:=by
  have:=bounds_u64 h
  unfold U64;omega
def RdC (S:Nat→Prop) (w:World) (cs:List V) (es:List Value):Prop:=es.length=cs.length ∧ ∀ j,j<cs.length→PRel S w (cAt cs j) (es.getD j undef)
theorem rd0 {S:Nat→Prop} {w:World}:RdC S w [] []:=⟨rfl,fun j hj=>by simp at hj⟩
theorem rdc {S:Nat→Prop} {w:World} {c:V} {u:Value} {cs:List V} {es:List Value} (h:PRel S w c u) (k:RdC S w cs es):RdC S w (c :: cs) (u :: es):=by
  refine ⟨by simp [k.1],fun j hj=>?_⟩
  cases j with
  | zero=>simpa [cAt] using h
  | succ j=>have:=k.2 j (by simpa using hj);simpa [cAt] using this
theorem rdB_of_cells {P:Program} {W:World} {t:TypeId} {S:Nat→Prop} (hu:P.underlying t=some (.int .u8)) (es:List Value) (h:Cells P W t es):∃ x,RdC S W (encB x) es∧True:=by
  obtain ⟨n,rfl,hw⟩:=h.int_ hu
  have:=bounds_u8 hw
  refine ⟨UInt8.ofNat n.toNat,rdc ?_ rd0,trivial⟩
  have e:((UInt8.ofNat n.toNat).toNat:Int)=n:=by
    rw [UInt8.toNat_ofNat'];omega
  rw [e];exact .lit _ rfl
theorem rdI_of_cells {P:Program} {W:World} {t:TypeId} {S:Nat→Prop} (hu:P.underlying t=some (.int .i64)) (es:List Value) (h:Cells P W t es):∃ x,RdC S W (encI x) es∧I64 x:=by
  obtain ⟨n,rfl,hw⟩:=h.int_ hu
  exact ⟨n,rdc (.lit _ rfl) rd0,i64_of_wf hw⟩
theorem rd_of_slice {α:Type} {P:Program} {W:World} {t e:TypeId} {v:Value} {enc:α→List V} {wf:α→Prop} {size bytes:Nat}
    (hu:P.underlying t=some (.slice e)) (hs:P.cellsOf e=size) (hb:P.bytesOf e=bytes) (hpos:0<size)
    (hR:∀ es,Cells P W e es → ∃ x,RdC (fun b=>b<W.heap.size) W (enc x) es∧wf x) (h:Cells P W t [v]) :
    ∃ l:List α,PRel (fun b=>b<W.heap.size) W (.ro (l.map enc)) v∧l.length * bytes≤140737488351232 ∧ ∀ y,y ∈ l→wf y:=by
  rcases h.slice_ hu with h0 | ⟨a,len,cap,hv,hl,hmax,hc,he⟩
  · injection h0 with h0 _
    subst h0
    exact ⟨[],.ro [] none 0 1 0 0 (fun _ _=>undef) (Nat.le_refl _) (by unfold maxLen;omega) (by omega) (fun h=>by simp at h) (fun i hi=>by simp at hi) (fun i j hi=>by simp at hi) (fun i j hi=>by simp at hi),by simp,fun y hy=>by simp at hy⟩
  · injection hv with hv _
    subst hv
    rw [hs] at he
    rw [hb] at hc
    have hx:∀ i,i<len → ∃ x es,es.length=size∧(∀ j,j<size→W.cell? ((a.add (i * size)).add j)=es[j]?)∧RdC (fun b=>b<W.heap.size) W (enc x) es∧wf x:=fun i hi=>by
      obtain ⟨es,h1,h2,h3⟩:=he i (by omega)
      obtain ⟨x,hx,hw⟩:=hR es h3
      exact ⟨x,es,h1,h2,hx,hw⟩
    have hl':∃ l:List α,l.length=len∧(∀ i (h:i<l.length),∃ es,es.length=size∧(∀ j,j<size→W.cell? ((a.add (i * size)).add j)=es[j]?)∧RdC (fun b=>b<W.heap.size) W (enc l[i]) es) ∧ ∀ y,y ∈ l→wf y:=by
      clear hl hc he h
      induction len with
      | zero=>exact ⟨[],rfl,fun i hi=>by simp at hi,fun y hy=>by simp at hy⟩
      | succ n ih=>
        obtain ⟨l,hl,hl2,hl3⟩:=ih (fun i hi=>hx i (by omega))
        obtain ⟨x,es,h1,h2,h3,h4⟩:=hx n (by omega)
        refine ⟨l++[x],by simp [hl],fun i hi=>?_,fun y hy=>?_⟩
        · simp at hi
          by_cases hin:i<l.length
          · rw [List.getElem_append_left hin]
            exact hl2 i hin
          · have:i=n:=by omega
            subst this
            refine ⟨es,h1,h2,?_⟩
            rw [List.getElem_append_right (by omega)]
            simpa [hl] using h3
        · simp at hy
          rcases hy with hy|rfl
          · exact hl3 y hy
          · exact h4
    obtain ⟨l,hll,hl2,hl3⟩:=hl'
    subst hll
    have hlb:l.length * bytes≤reachBytes:=Nat.le_trans (Nat.mul_le_mul_right _ hl) hc
    refine ⟨l,?_,by unfold reachBytes at hlb;omega,hl3⟩
    by_cases h0:0<l.length
    · obtain ⟨es0,g1,g2,_⟩:=hl2 0 h0
      have hsp:a.spot=none:=by
        have g:=g2 0 hpos
        rw [List.getElem?_eq_getElem (by omega)] at g
        have:=World.cell?_spot g
        simpa [Addr.add] using this
      obtain ⟨b,off,spot⟩:=a
      simp only at hsp
      subst hsp
      simp only [add_addr] at hl2 g2
      have hlt:b<W.heap.size:=by
        have g:=g2 0 hpos
        rw [List.getElem?_eq_getElem (by omega)] at g
        exact cell_lt g
      have hsz:∀ i (h:i<l.length),(enc l[i]).length=size:=fun i hi=>by
        obtain ⟨es,q1,q2,q3⟩:=hl2 i hi
        rw [← q3.1,q1]
      have hmap:∀ i (h:i<l.length),eAt (l.map enc) i=enc l[i]:=fun i hi=>by
        unfold eAt
        rw [List.getD_eq_getElem?_getD,List.getElem?_map,List.getElem?_eq_getElem hi];rfl
      have:PRel (fun b=>b<W.heap.size) W (.ro (l.map enc)) (.slice (some ⟨b,off,none⟩) (l.map enc).length cap):=by
        refine .ro _ _ cap size b off (fun i j=>(W.cell? ⟨b,off+i * size+j,none⟩).getD undef) (by simpa using hl) hmax hpos (fun _=>⟨rfl,hlt⟩) (fun i hi=>?_) (fun i j hi hj=>?_) (fun i j hi hj=>?_)
        · rw [List.length_map] at hi;rw [hmap i hi];exact hsz i hi
        · rw [List.length_map] at hi
          obtain ⟨es,q1,q2,q3⟩:=hl2 i hi
          rw [q2 j hj,List.getElem?_eq_getElem (by omega)];rfl
        · rw [List.length_map] at hi
          obtain ⟨es,q1,q2,q3⟩:=hl2 i hi
          rw [hmap i hi,q2 j hj]
          have:=q3.2 j (by rw [hsz i hi];exact hj)
          rwa [List.getD_eq_getElem?_getD] at this
      rwa [List.length_map] at this
    · have hn:l=[]:=List.eq_nil_of_length_eq_zero (by omega)
      subst hn
      exact .ro [] (some a) cap 1 0 0 (fun _ _=>undef) (by simp) hmax (by omega) (fun h=>by simp at h) (fun i hi=>by simp at hi) (fun i j hi=>by simp at hi) (fun i j hi=>by simp at hi)
def ArgV (W:World) (v:Value) (x:V):Prop:=VRel (fun _=>none) (fun b=>b<W.heap.size) W x v
theorem argv_lit {W:World} {u:Value} (h:u.oneCell' = true):ArgV W u (.lit u):=.pure (.lit _ h)
theorem argv_ro {W:World} {u:Value} {l:List (List V)} (h:PRel (fun b=>b<W.heap.size) W (.ro l) u):ArgV W u (.ro l):=.pure h
theorem argv_agg {W:World} {cs:List V} {es:List Value} (h:RdC (fun b=>b<W.heap.size) W cs es):ArgV W (.agg es.toArray) (.agg cs):=
  .agg (by simp [h.1]) (fun j hj=>by
    have:=h.2 j hj
    have e:es.toArray.getD j undef=es.getD j undef:=by rw [Array.getD_eq_getD_getElem?,List.getD_eq_getElem?_getD];simp
    rw [e];exact .pure this)
inductive ArgVs (W:World):List V→List Value→Prop
  | nil:ArgVs W [] []
  | cons {x:V} {v:Value} {xs:List V} {vs:List Value} (h:ArgV W v x) (hs:ArgVs W xs vs):ArgVs W (x :: xs) (v :: vs)
theorem ArgVs.spec {W:World} {xs:List V} {vs:List Value} (h:ArgVs W xs vs):vs.length=xs.length ∧ ∀ j,j<xs.length→ArgV W (vs.getD j undef) (cAt xs j):=by
  induction h with
  | nil=>exact ⟨rfl,fun j hj=>by simp at hj⟩
  | cons h hs ih=>
    refine ⟨by simp [ih.1],fun j hj=>?_⟩
    cases j with
    | zero=>simpa [cAt] using h
    | succ j=>have:=ih.2 j (by simpa using hj);simpa [cAt] using this
theorem law_of_fn {P:Program} {f:FuncId} {xs:List V} {vs:List Value} {W:World} (hf:Fn P f xs (.lit (.bool true))) (ha:ArgVs W xs vs):Calls P f vs.toArray W fun e W'=>e = .returned (.bool true)∧Below W.heap.size W W':=by
  obtain ⟨h1,h2⟩:=ha.spec
  refine (hf.2 W (fun _=>True) vs.toArray (by simpa using h1) (fun _ _=>trivial) (fun j hj=>?_)).mono ?_
  · have e:vs.toArray.getD j undef=vs.getD j undef:=by rw [Array.getD_eq_getD_getElem?,List.getD_eq_getElem?_getD];simp
    rw [e]
    exact (h2 j hj).mono (Same.refl _ _) (fun _ _ _=>trivial) (fun _ _ h=>h)
  · rintro e w' ⟨v,rfl,hb,hv⟩
    rw [lit_inv hv]
    exact ⟨rfl,hb⟩
end Go.Proofs.YtendheafcbickaaGreat
