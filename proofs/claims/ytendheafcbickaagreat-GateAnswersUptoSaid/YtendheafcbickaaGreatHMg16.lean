/-
  SEVERAL TEXTS IN ONE: each with its own comment.
-/
import Derived.Test.YtendheafcbickaaGreatHMg03
import Derived.Laws.Pointers

set_option linter.unusedVariables false
set_option linter.unusedSimpArgs false
set_option linter.unusedVariables false
namespace Go.Proofs.YtendheafcbickaaGreat
open Go.RowKit Go.ChangeMaps
section
variable {P:Program} {o:Oper} {n0:Nat} {st:St} {G:List Nat}
theorem g_snapB {k:Nat} {f:FuncId} {xs:Array Operand} {ts:Array TypeId} {vs vs':List V} {e s d:Nat} {l:List (List V)} (ho:o.op = .call { callee:=.value (.func f),args:=xs,argTypes:=ts }) (hd:o.dst=some d) (hdn:Nat.blt d st.nt=true)
    (hx:argsE st.env xs.toList=some vs) (hs:snapV.snapL st.heap vs=some vs') (hf:FnM P f vs' [] 0 (.own 0) [(0,some (.row e s l))] 1) (hlit:∀ i j,i<l.length→j<s → ∃ u,cAt (eAt l i) j = .lit u) :
    GAt P k o st (st.newAt k d (.own k) (.row e s l)):=fun F base w0 ρ a w hH hE hnn hk=>by
  obtain ⟨e1,e2⟩:=argsE_spec hE hx
  obtain ⟨g1,g2⟩:=snapL_spec hs
  unfold Oper.wp
  rw [run_call ho hf.1 a w,Oper.upon_enter]
  have hT:∀ b,Stab (fun _=>True) (fun _=>none) [] b:=fun b=>⟨trivial,fun id B u hB=>by simp [getH] at hB⟩
  have hH0:HRel (fun _=>True) (fun b=>w.heap.size≤b) (fun _=>none) [] 0 w w:=
    { below:=Frm.refl _ _
      hbase:=fun b hb=>hb
      hF:=fun b _=>trivial
      sup:=fun id u h=>by cases h
      inj:=fun id id' B B' u u' b h=>by cases h
      blk:=fun id B h=>by cases h }
  have hsz:(xs.map a.eval).size=vs'.length:=by rw [g1,e1];simp
  refine (hf.2.2 (fun _=>True) _ w _ w (xs.map a.eval) hsz hH0 (fun j hj=>?_)).mono ?_
  · rw [g1] at hj
    have h:=e2 j hj
    have e3:(xs.toList.map a.eval).getD j undef=(xs.map a.eval).getD j undef:=by
      rw [List.getD_eq_getElem?_getD,Array.getD_eq_getD_getElem?,← Array.toList_map]
      simp
    rw [e3] at h
    exact snap_spec hH (fun b _ _=>hT b) (fun b _ _=>hT b) h (g2 j hj)
  · rintro e' w' ⟨v,ρ',rfl,q1,q2,_⟩
    have h0:=own_inv q2
    have hbl:=q1.below.to_below
    obtain ⟨p0,v',ys,p1,⟨p2,p2b⟩,p3,p4⟩:=q1.blk 0 (.row e s l) (by simp [getH])
    rw [h0] at p1;injection p1 with p1;subst p1
    have h1:=(q1.sup 0 _ h0).2
    rw [hd]
    refine next_new hH hE hnn hk hbl (fun _ b hb=>p2b b hb) (Nat.le_of_ble_eq_true hdn) h1 (fun S hS _ hsame=>?_) (fun S=>.own (upd_same _ _ _))
    refine ⟨p0,v,ys,upd_same _ _ _,⟨p2,fun b hb=>hH.hbase b (p2b b hb)⟩,p3,fun i j hi hj=>?_⟩
    obtain ⟨u,hu,hp,ho'⟩:=p4 i j hi hj
    obtain ⟨x,hx⟩:=hlit i j hi hj
    rw [hx] at hp ⊢
    cases hp with
    | lit=>exact ⟨_,hu,.lit _ (by assumption),ho'⟩
theorem lit_bytes (l:List UInt8):∀ i j,i<(l.map encB).length→j<1 → ∃ u,cAt (eAt (l.map encB) i) j = .lit u:=fun i j hi hj=>by
  rw [List.length_map] at hi
  obtain rfl:j=0:=by omega
  have:eAt (l.map encB) i=encB l[i]:=by
    unfold eAt
    rw [List.getD_eq_getElem?_getD,List.getElem?_map,List.getElem?_eq_getElem hi];rfl
  rw [this]
  exact ⟨_,rfl⟩
section
variable {ops:List Oper} {rest:List Oper} {env:List (Nat×V)} {heap:List (Nat×Option Blk)} {next nt:Nat} {Q:St→Prop}
theorem s_snapB {f:FuncId} {xs:Array Operand} {ts:Array TypeId} {vs vs':List V} {e d:Nat} {l:List UInt8} (hf:FnM P f vs' [] 0 (.own 0) [(0,some (.row e 1 (l.map encB)))] 1) (ho:o.op = .call { callee:=.value (.func f),args:=xs,argTypes:=ts }:=by rfl) (hg:guardV env ops o.guard=some true:=by rfl) (hd:o.dst=some d:=by rfl) (hdn:Nat.blt d nt=true:=by rfl) (hn0:Nat.ble n0 next=true:=by rfl)
    (hx:argsE env xs.toList=some vs:=by rfl) (hs:snapV.snapL heap vs=some vs':=by rfl) (h:RunL P n0 ops.toArray rest ⟨(d,.own next) :: env,(next,some (.row e 1 (l.map encB))) :: heap,next+1,nt⟩ Q):RunL P n0 ops.toArray (o :: rest) ⟨env,heap,next,nt⟩ Q:=
  l_g hg (gstep_of_at (Nat.le_of_ble_eq_true hn0) (g_snapB (st:={ env:=env,heap:=heap,next:=next+1,nt:=nt }) ho hd hdn hx hs hf (lit_bytes l))) h
end
end
end Go.Proofs.YtendheafcbickaaGreat


set_option linter.unusedSimpArgs false
set_option linter.unusedVariables false
namespace Go.Proofs.YtendheafcbickaaGreat
open Go.RowKit
section
variable {P:Program} {G:List Nat} {o:Oper} {st:St}
theorem q_nil_eql {T yt:TypeId} {x y:Operand} {id i s j:Nat} (ho:o.op = .binOp .eql T x y yt) (hx:opE st.env x=some (.ptr id i s j)) (hy:opE st.env y=some (.lit (.pointer none))) (hT:P.underlying T=some (.pointer (P.pointee T))) :
    QStep P G o st (.lit (.bool false)):=
  q_of_run fun F base w0 ρ a w hH hE=>by
    obtain ⟨r,b,h1,h2,h3⟩:=ptr_inv (opE_sound hE hx)
    have h4:=lit_inv (opE_sound hE hy)
    refine ⟨_,.pure (.lit _ rfl),fun w'=>?_⟩
    unfold execOp;rw [ho];simp only [];rw [h3,h4]
    simp [eqGuard,binOp,Sem.run_bind,Sem.run_pure,run_equal_pointer_nil w' T _ hT]
theorem q_nil2_eql {T yt:TypeId} {x y:Operand} (ho:o.op = .binOp .eql T x y yt) (hx:opE st.env x=some (.lit (.pointer none))) (hy:opE st.env y=some (.lit (.pointer none))) (hT:P.underlying T=some (.pointer (P.pointee T))) :
    QStep P G o st (.lit (.bool true)):=q_bin ho hx hy (fun w=>by
      simp [eqGuard,binOp,Sem.run_bind,Sem.run_pure,run_equal_pointer_nil w T _ hT]) rfl
def WkC (v v':V):Prop:=v=v' ∨ (v = .lit (.slice none 0 0)∧v' = .ro [])
theorem WkC.rel {S:Nat→Prop} {w:World} {v v':V} {u:Value} (h:WkC v v') (hr:PRel S w v u):PRel S w v' u:=by
  rcases h with rfl | ⟨rfl,rfl⟩
  · exact hr
  · cases hr
    exact .ro [] none 0 1 0 0 (fun _ _=>undef) (by simp) (by unfold maxLen;omega) (by omega) (fun h=>by simp at h) (fun i hi=>by simp at hi) (fun i j hi=>by simp at hi) (fun i j hi=>by simp at hi)
end
end Go.Proofs.YtendheafcbickaaGreat


set_option linter.unusedSimpArgs false
set_option linter.unusedVariables false
namespace Go.Proofs.YtendheafcbickaaGreat
open Go.RowKit
section
variable {P:Program} {n0:Nat}
def mvI (a b x:Nat):Nat:=bif Nat.beq x a then b else x
theorem mvI_a (a b:Nat):mvI a b a=b:=by unfold mvI;rw [Nat.beq_refl];rfl
theorem mvI_o {a b x:Nat} (h:x≠a):mvI a b x=x:=by
  unfold mvI
  cases e:Nat.beq x a with
  | true=>exact absurd (Nat.eq_of_beq_eq_true e) h
  | false=>rfl
def coverM (m:Nat→Nat) (env:List (Nat×V)):List (Nat×V)→Prop
  | []=>True
  | (t,v) :: r=>(∃ u,getE env t=some u∧fv m u=v)∧coverM m env r
theorem coverM_spec {m:Nat→Nat} {env:List (Nat×V)}:∀ {e:List (Nat×V)},coverM m env e → ∀ t v,getE e t=some v → ∃ u,getE env t=some u∧fv m u=v
  | [],_,t,v,h=>by simp [getE] at h
  | (s,x) :: r,hc,t,v,h=>by
    simp only [getE] at h
    cases hb:Nat.beq s t with
    | true=>rw [hb] at h;simp only [cond_true,Option.some.injEq] at h;rw [← h,← Nat.eq_of_beq_eq_true hb];exact hc.1
    | false=>rw [hb] at h;exact coverM_spec hc.2 t v h
def coverMH (m:Nat→Nat) (heap:List (Nat×Option Blk)):List (Nat×Option Blk)→Prop
  | []=>True
  | (_,none) :: r=>coverMH m heap r
  | (id,some B') :: r=>(∃ i B,m i=id∧getH heap i=some B∧fB m B=B')∧coverMH m heap r
theorem coverMH_spec {m:Nat→Nat} {heap:List (Nat×Option Blk)}:∀ {e:List (Nat×Option Blk)},coverMH m heap e → ∀ id B',getH e id=some B' → ∃ i B,m i=id∧getH heap i=some B∧fB m B=B'
  | [],_,t,v,h=>by simp [getH] at h
  | (s,none) :: r,hc,t,v,h=>by
    rw [getH_new] at h
    split at h
    · cases h
    · exact coverMH_spec (e:=r) hc t v h
  | (s,some u) :: r,hc,t,v,h=>by
    rw [getH_new] at h
    split at h
    · rename_i e;subst e;injection h with h;subst h;exact hc.1
    · exact coverMH_spec (e:=r) hc.2 t v h
theorem less_mv {st st':St} (a:Nat) (hn0:Nat.ble n0 st.next=true) (hE':coverM (mvI a st.next) st.env st'.env) (hH':coverMH (mvI a st.next) st.heap st'.heap) (hn:st'.next=st.next+1) (hnt:st'.nt=st.nt):Less P n0 st st':=fun F base w0 ρ act w hH hE=>by
  have hE2:=coverM_spec hE'
  have hH2:=coverMH_spec hH'
  clear hE' hH'
  generalize hb:st.next=b at *
  let ρ':Nat→Option Value:=fun id=>if id=b then ρ a else ρ id
  have hup:∀ id u,ρ id=some u→ρ' (mvI a b id)=some u:=fun id u hu=>by
    by_cases e:id=a
    · subst e;rw [mvI_a];show (if b=b then ρ id else ρ b)=some u;rw [if_pos rfl];exact hu
    · rw [mvI_o e]
      show (if id=b then ρ a else ρ id)=some u
      have:=(hH.sup id u hu).1
      rw [if_neg (by omega)];exact hu
  have hdn:∀ i B,getH st.heap i=some B→ρ' (mvI a b i)=ρ i:=fun i B hB=>by
    have hi:∃ u,ρ i=some u:=by
      have:=hH.blk i B hB
      cases B with
      | box t cs=>obtain ⟨_,_,h,_⟩:=this;exact ⟨_,h⟩
      | row e s l=>obtain ⟨_,_,_,h,_⟩:=this;exact ⟨_,h⟩
      | fro l=>obtain ⟨_,h,_⟩:=this;exact ⟨_,h⟩
      | map q es=>obtain ⟨_,_,_,h,_⟩:=this;exact ⟨_,h⟩
      | obj o=>obtain ⟨_,h,_⟩:=this;exact ⟨_,h⟩
      | brow be bl=>obtain ⟨_,_,_,_,h,_⟩:=this;exact ⟨_,h⟩
      | rox e s l=>obtain ⟨_,_,_,h,_⟩:=this;exact ⟨_,h⟩
      | fmap q es=>obtain ⟨_,_,_,h,_⟩:=this;exact ⟨_,h⟩
      | iter left cur=>obtain ⟨_,_,_,_,_,_,_,h,_⟩:=this;exact ⟨_,h⟩
    obtain ⟨u,hu⟩:=hi
    rw [hup i u hu,hu]
  have hst:∀ x,Stab F ρ st.heap x→Stab F ρ' st'.heap x:=fun x h=>⟨h.1,fun id B' u hB ho hu=>by
    obtain ⟨i,B,rfl,h2,rfl⟩:=hH2 id B' hB
    rw [hdn i B h2] at hu
    exact h.2 i B u h2 (by rw [fB_owns] at ho;exact ho) hu⟩
  have hS:∀ x,Stab F ρ st.heap x→x<w.heap.size→Stab F ρ' st'.heap x:=fun x h _=>hst x h
  refine ⟨ρ',⟨⟨hH.below,hH.hbase,fun id u hu=>?_,fun id id' B B' u u' x hB hB' ho ho' hu hu' hx hx'=>?_,fun id B' hB'=>?_⟩,hH.hF⟩,⟨by rw [hnt];exact hE.size,hE.defers,fun t v hv=>?_⟩,fun id hid=>?_⟩
  · rw [hn]
    have hu:(if id=b then ρ a else ρ id)=some u:=hu
    split at hu
    · have:=hH.sup a u hu;exact ⟨by omega,this.2⟩
    · have:=hH.sup id u hu;exact ⟨by omega,this.2⟩
  · obtain ⟨i,C,rfl,h2,rfl⟩:=hH2 id B hB
    obtain ⟨j,C',rfl,k2,rfl⟩:=hH2 id' B' hB'
    rw [hdn i C h2] at hu
    rw [hdn j C' k2] at hu'
    rw [fB_owns] at ho ho'
    rw [hH.inj i j C C' u u' x h2 k2 ho ho' hu hu' hx hx']
  · obtain ⟨i,B,rfl,h2,rfl⟩:=hH2 id B' hB'
    have hbk:=hH.blk i B h2
    have e:=hdn i B h2
    cases B with
    | box t cs=>
      obtain ⟨b,us,q1,q2,q3,q4,q5⟩:=hbk
      refine ⟨b,us,by rw [e];exact q1,q2,q3,by rw [fvL_len];exact q4,fun j hj=>?_⟩
      rw [fvL_len] at hj
      rw [fvL_at hj]
      exact ⟨fv_up hS hup (q5 j hj).1,(q5 j hj).2⟩
    | row ty s l=>
      obtain ⟨h0',v,xs,q1,q2,q3,q4⟩:=hbk
      exact ⟨h0',v,xs,by rw [e];exact q1,q2,q3,fun i j hi hj=>by
        obtain ⟨u,hu,hp,ho⟩:=q4 i j hi hj
        exact ⟨u,hu,hp.mono (Same.refl _ _) hS,ho⟩⟩
    | fro l=>
      obtain ⟨v,q1,q2,q3⟩:=hbk
      exact ⟨v,by rw [e];exact q1,q2.mono (Same.refl _ _) hS,q3⟩
    | map q es=>
      obtain ⟨b,mes,clock,q1,q2⟩:=hbk
      exact ⟨b,mes,clock,by rw [e];exact q1,q2⟩
    | obj o=>
      obtain ⟨b,q1,q2⟩:=hbk
      exact ⟨b,by rw [e];exact q1,q2⟩
    | brow be bl=>
      obtain ⟨b,cap,cur,fz,q1,q2⟩:=hbk
      exact ⟨b,cap,cur,fz,by rw [e];exact q1,q2⟩
    | rox ty s l=>
      obtain ⟨h0',v,xs,q1,q2,q3,q4⟩:=hbk
      refine ⟨h0',v,xs,by rw [e];exact q1,by rw [List.length_map];exact q2,fun i hi=>?_,fun i j hi hj=>?_⟩
      · rw [List.length_map] at hi;rw [eAt_fmap hi,fvL_len];exact q3 i hi
      · rw [List.length_map] at hi
        obtain ⟨u,hu,hp,ho⟩:=q4 i j hi hj
        rw [eAt_fmap hi,fvL_at (by rw [q3 i hi];exact hj)]
        exact ⟨u,hu,fv_up hS hup hp,ho⟩
    | fmap q es=>
      obtain ⟨b,mes,clock,q1,q2,q3⟩:=hbk
      exact ⟨b,mes,clock,by rw [e];exact q1,hS b q2 (Array.getElem?_eq_some_iff.1 q3.1).1,q3⟩
    | iter left cur=>
      obtain ⟨r,b,mes,clock,since,seen,c0,q1,q2,q3,q4,q5⟩:=hbk
      exact ⟨r,b,mes,clock,since,seen,c0,by rw [e];exact q1,q2,q3,hS b q4 (Array.getElem?_eq_some_iff.1 q5.1).1,q5⟩
  · obtain ⟨u,h1,rfl⟩:=hE2 t v hv
    exact fv_up hS hup (hE.slot t u h1)
  · show (if id=b then ρ a else ρ id)=ρ id
    have:=Nat.le_of_ble_eq_true hn0
    rw [if_neg (by omega)]
theorem mv_ {st st':St} (a:Nat) (hn0:Nat.ble n0 st.next=true:=by rfl)
    (hE':coverM (mvI a st.next) st.env st'.env:=by ((repeat' (first|exact True.intro|exact ⟨_,rfl,rfl⟩|refine And.intro ?_ ?_));done))
    (hH':coverMH (mvI a st.next) st.heap st'.heap:=by ((repeat' (first|exact True.intro|exact ⟨0,_,rfl,rfl,rfl⟩|exact ⟨1,_,rfl,rfl,rfl⟩|exact ⟨2,_,rfl,rfl,rfl⟩|exact ⟨3,_,rfl,rfl,rfl⟩|exact ⟨4,_,rfl,rfl,rfl⟩|exact ⟨5,_,rfl,rfl,rfl⟩|exact ⟨6,_,rfl,rfl,rfl⟩|exact ⟨7,_,rfl,rfl,rfl⟩|exact ⟨8,_,rfl,rfl,rfl⟩|refine And.intro ?_ ?_));done))
    (hn:st'.next=st.next+1:=by rfl) (hnt:st'.nt=st.nt:=by rfl):Less P n0 st st':=less_mv a hn0 hE' hH' hn hnt
end
theorem cAt_part {cs:List V} {a s j:Nat} (hj:j<s) (hc:a+s≤cs.length):cAt ((cs.drop a).take s) j=cAt cs (a+j):=by
  unfold cAt
  rw [List.getD_eq_getElem?_getD,List.getD_eq_getElem?_getD,List.getElem?_take,if_pos hj,List.getElem?_drop]
theorem q_index_aggS {P:Program} {G:List Nat} {o:Oper} {st:St} {T e N n s:Nat} {x y:Operand} {cs:List V} {k:IntKind} {m:Int} (ho:o.op = .index T x y) (hx:opE st.env x=some (.agg cs)) (hy:opE st.env y=some (.lit (.int k m)))
    (hm:m=(n:Int)) (hT:P.underlying T=some (.array N e)) (hn:n<N) (hc:n * s+s≤cs.length) (ha:aggT P e=some true) (hs:sizeT P e=some s):QStep P G o st (.agg ((cs.drop (n * s)).take s)):=
  q_of_run fun F base w0 ρ a w hH hE=>by
    subst hm
    obtain ⟨us,e1,e2,e3⟩:=agg_inv (opE_sound hE hx)
    have hl:((cs.drop (n * s)).take s).length=s:=by rw [List.length_take,List.length_drop];omega
    have hz:(us.extract (n * s) (n * s+s)).size=s:=by rw [Array.size_extract];omega
    refine ⟨.agg (us.extract (n * s) (n * s+s)),.agg (by rw [hz,hl]) (fun j hj=>?_),fun w'=>?_⟩
    · rw [hl] at hj
      rw [cAt_part hj hc]
      have h3:=e3 (n * s+j) (by omega)
      have hv:(us.extract (n * s) (n * s+s)).getD j undef=us.getD (n * s+j) undef:=by
        rw [Array.getD_eq_getD_getElem?,Array.getD_eq_getD_getElem?,Array.getElem?_extract]
        rw [if_pos (by omega)]
      rw [hv];exact h3
    · unfold execOp;rw [ho];simp only [];rw [e1,lit_inv (opE_sound hE hy)]
      simp [Instr.index,asIntOf,run_underlying hT,Sem.run_bind,Sem.run_pure,hn,run_sizeT hs,part,run_aggT ha]
section
variable {P:Program} {o:Oper} {n0:Nat} {ops:List Oper} {rest:List Oper} {env:List (Nat×V)} {heap:List (Nat×Option Blk)} {next nt:Nat} {Q:St→Prop}
theorem s_ixs {T e N n s d:Nat} {x y:Operand} {cs r:List V} {k:IntKind} {m:Int} (ho:o.op = .index T x y:=by rfl) (hx:opE env x=some (.agg cs):=by rfl) (hy:opE env y=some (.lit (.int k m)):=by rfl)
    (hm:m=(n:Int):=by first|exact lit0|exact lit1|exact lit2|exact lit3|rfl) (hT:P.underlying T=some (.array N e):=by rfl) (hn:Nat.blt n N=true:=by rfl) (ha:aggT P e=some true:=by rfl) (hs:sizeT P e=some s:=by rfl) (hc:Nat.ble (n * s+s) cs.length=true:=by rfl) (hr:(cs.drop (n * s)).take s=r:=by rfl)
    (hg:guardV env ops o.guard=some true:=by rfl) (hd:o.dst=some d:=by rfl) (hdn:Nat.blt d nt=true:=by rfl) (h:RunL P n0 ops.toArray rest ⟨(d,.agg r) :: env,heap,next,nt⟩ Q):RunL P n0 ops.toArray (o :: rest) ⟨env,heap,next,nt⟩ Q:=by
  refine x_q hg hd hdn ?_ h
  rw [← hr]
  exact q_index_aggS (P:=P) (G:=[]) (st:=⟨env,heap,next,nt⟩) ho hx hy hm hT (Nat.le_of_ble_eq_true hn) (Nat.le_of_ble_eq_true hc) ha hs
end
theorem ro_wk {S:Nat→Prop} {w:World} {l l':List (List V)} {u:Value} (hlen:l'.length=l.length) (hL:∀ i,i<l.length→(eAt l' i).length=(eAt l i).length)
    (hw:∀ i j,i<l.length→j<(eAt l i).length→WkC (cAt (eAt l i) j) (cAt (eAt l' i) j)) (h:PRel S w (.ro l) u):PRel S w (.ro l') u:=by
  cases h with
  | ro l A c s b off us hc hm hp hA hs hcell hrel=>
    rw [← hlen] at hc hA hs hcell hrel hL hw ⊢
    exact .ro l' A c s b off us hc hm hp hA (fun i hi=>by rw [hL i hi];exact hs i hi) hcell (fun i j hi hj=>(hw i j hi (by rw [hs i hi];exact hj)).rel (hrel i j hi hj))
end Go.Proofs.YtendheafcbickaaGreat
