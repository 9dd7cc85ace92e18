
import Derived.Test.YtendheafcbickaaGreatMg18
import Derived.Test.YtendheafcbickaaGreatAbsB
set_option linter.unusedVariables false
set_option linter.unusedSimpArgs false
set_option linter.unusedVariables false
namespace Go.Proofs.YtendheafcbickaaGreat
open Go.Shelf Go.RowKit Go.Lib Go.Sort
set_option maxRecDepth 100000
theorem sortL_of:∀ (m:List DRange) (a:Int),(∀ x ∈ m,a≤x.Lo)→(∀ i j,i<j→j<m.length→(m.getD i default).Lo≤(m.getD j default).Lo)→sortL a m
  | [],_,_,_=>trivial
  | x :: m,a,h1,h2=>⟨h1 x (List.mem_cons_self ..),sortL_of m x.Lo (fun y hy=>by
      obtain ⟨i,hi,rfl⟩:=List.getElem_of_mem hy
      have:=h2 0 (i+1) (by omega) (by simp;omega)
      simpa [List.getD_eq_getElem?_getD,hi] using this) (fun i j hi hj=>by
      have:=h2 (i+1) (j+1) (by omega) (by simp;omega)
      simpa using this)⟩
theorem getI_toArray (l:List DRange) (i:Nat):l.toArray[i]! = l.getD i default:=by
  simp [Array.getElem!_eq_getD,List.getD_eq_getElem?_getD]
theorem eR_len (x:DRange):(eR x).length=2:=rfl
def cellsR (cur:Array Value) (l:List DRange):Prop:=∀ i j,i<l.length→j<2→cur[i * 2+j]? = some ((eR (l.getD i default)).getD j undef)
theorem mapBlock_grown (w:World) (n g:Nat) (f:Array Value→Array Value) (os:Array Obj):w.grownBy (grow (mapBlock (Sort.ahead w n) g f) os) (some g):=
  ⟨rfl,rfl,rfl,by simp [mapBlock,Sort.ahead],fun k hk hne=>by
    rw [heap_grow_old _ _ (by simpa [mapBlock,Sort.ahead] using hk)]
    simp only [mapBlock,Sort.ahead,Array.getElem?_modify]
    rw [if_neg (fun e=>hne (by rw [e]))]⟩
theorem sortR (l:List DRange) (hp:∀ x ∈ l,0≤x.Lo) (h2:2≤l.length) (hl:l.length<4611686018427387904) (w:World) (g cap Bs:Nat) (cur:Array Value) (hg:w.heap[g]? = some (.cells cur 146 (0,0)))
    (hc:cellsR cur l) (hBs:w.cell? ⟨Bs,0,none⟩=some (.slice (some ⟨g,0,none⟩) l.length cap)) (hne:Bs≠g) :
    Calls Tryz.prog 295 #[.iface 40 (.slice (some ⟨g,0,none⟩) l.length cap),.func (.func 296) #[] #[.pointer (some ⟨Bs,0,none⟩)]] w fun e w'=>
      e = .returned (.tuple #[]) ∧ ∃ m cur',(∀ x,x ∈ m ↔ x ∈ l)∧m.length=l.length∧sortL 0 m∧w.grownBy w' (some g)∧w'.heap[g]? = some (.cells cur' 146 (0,0))∧cur'.size=cur.size∧cellsR cur' m:=by
  have hlt:=(Array.getElem?_eq_some_iff.1 hg).1
  have hH:HoldsK eR 2 w g 0 l.toArray:=fun j hj=>by
    rw [size_flatK] at hj
    have hj2:j<l.length * 2:=by simpa using hj
    rw [get_flatK _ _ _ _ hj]
    refine ⟨?_,?_⟩
    · have h:=hc (j / 2) (j % 2) (by omega) (by omega)
      rw [show j / 2 * 2+j % 2=j by omega] at h
      simp only [World.cell?,hg,Nat.zero_add,id_eq]
      rw [getI_toArray]
      have h3:j % 2<(eR (l.getD (j / 2) default)).length:=by rw [eR_len];omega
      rw [List.getD_eq_getElem?_getD,List.getElem?_eq_getElem h3,Option.getD_some] at h
      rw [getElem!_pos (eR (l.getD (j / 2) default)) (j % 2) h3]
      simpa using h
    · simp [World.frozen?,hg]
  have hsz:l.toArray.size=l.length:=by simp
  have h:=sortR2 g 0 cap Bs l.toArray (by rw [hsz];exact h2) (by rw [hsz];exact hl) w hH hlt (by rw [hsz];exact hBs) (World.block_lt_of_cell? w _ hBs) hne
  rw [hsz] at h
  refine h.mono ?_
  rintro e w' ⟨rfl,d',n,os,hperm,hsort,rfl⟩
  obtain ⟨p1,p2,p3⟩:=hperm
  have hd':d'.size=l.length:=by rw [p1,hsz]
  have hper:d'.toList.Perm l:=by
    have e1:d'.extract 0 l.length=d':=by rw [← hd'];simp
    have e2:l.toArray.extract 0 l.length=l.toArray:=by rw [← hsz];simp
    rw [e1,e2] at p3
    simpa using p3
  have hget:∀ i,d'[i]! = d'.toList.getD i default:=fun i=>by
    have:=getI_toArray d'.toList i
    simpa using this
  refine ⟨rfl,d'.toList,putCells id 0 (flatK eR 2 d') cur,fun x=>hper.mem_iff,by simpa using hd',?_,mapBlock_grown w n g _ os,?_,by simp [putCells],fun i j hi hj=>?_⟩
  · refine sortL_of _ 0 (fun x hx=>hp x (hper.mem_iff.1 hx)) (fun i j hi hj=>?_)
    have:=hsort i j (Nat.zero_le _) hi (by simpa [hd'] using hj)
    rw [hget,hget] at this
    simp only [ltR,decide_eq_false_iff_not] at this
    omega
  · rw [heap_grow_old _ _ (by simpa [putRowK,putRow,mapBlock,Sort.ahead] using hlt)]
    simp only [putRowK,putRow,mapBlock,Sort.ahead,Array.getElem?_modify,if_true,hg,Option.map_some,onCells]
  · have hi':i<d'.size:=by simpa using hi
    have hlen:i * 2+j<d'.size * 2:=by omega
    have hcur:i * 2+j<cur.size:=by
      have:=hc i j (by omega) hj
      exact (Array.getElem?_eq_some_iff.1 this).1
    unfold putCells
    rw [Array.getElem?_mapIdx,Array.getElem?_eq_getElem hcur,Option.map_some,if_pos ⟨Nat.zero_le _,by rw [size_flatK,Nat.zero_add];exact hlen⟩,Nat.sub_zero,get_flatK _ _ _ _ hlen]
    rw [show (i * 2+j) / 2=i by omega,show (i * 2+j) % 2=j by omega,hget]
    have h3:j<(eR (d'.toList.getD i default)).length:=by rw [eR_len];exact hj
    rw [getElem!_pos (eR (d'.toList.getD i default)) j h3,List.getD_eq_getElem?_getD (l:=eR _),List.getElem?_eq_getElem h3]
    rfl
theorem sortR1 (l:List DRange) (hp:∀ x ∈ l,0≤x.Lo) (h1:l.length≤1) (p:Option Addr) (cap:Nat) (lf:Go.Fn) (la lb:Array Value) (w:World) :
    Calls Tryz.prog 295 #[.iface 40 (.slice p l.length cap),.func lf la lb] w fun e w'=>e = .returned (.tuple #[])∧sortL 0 l ∧ ∃ os,w' = grow w os:=by
  have hK:Lib.swapperK l.length srE 25=l.length+1:=by
    rcases Nat.eq_zero_or_pos l.length with h|h
    · rw [h];simp [Lib.swapperK]
    · rw [show l.length=1 by omega];simp [Lib.swapperK]
  have hs:sortL 0 l:=by
    match l,h1 with
    | [],_=>trivial
    | [x],_=>exact ⟨hp x (List.mem_cons_self ..),trivial⟩
  have key : ∀ f, Tryz.prog.funcs.findIdx? (·.name == "internal/reflectlite" ++ ".Swapper$" ++ toString (Lib.swapperK l.length srE 25)) = some f → Calls Tryz.prog 295 #[.iface 40 (.slice p l.length cap), .func lf la lb] w fun e w' => e = .returned (.tuple #[]) ∧ sortL 0 l ∧ ∃ os, w' = grow w os := fun f hf => by
    have:=Any.sort_Slice_tiny sl6 40 146 srT srE (by kernel_rfl) (by kernel_rfl) (by kernel_rfl) (by kernel_rfl) 25 (fun _=>by kernel_rfl) p l.length cap h1 f hf lf la lb w
    exact Calls.mono this (fun e w' h=>⟨h.1,hs,h.2⟩)
  rcases Nat.eq_zero_or_pos l.length with h|h
  · refine key 315 ?_
    rw [hK,h];kernel_rfl
  · have h':l.length=1:=by omega
    refine key 316 ?_
    rw [hK,h'];kernel_rfl
theorem encR_cell (x:DRange) (j:Nat) (hj:j<2):cAt (encRange x) j = .lit ((eR x).getD j undef)∧((eR x).getD j undef).oneCell' = true:=by
  match j,hj with
  | 0,_=>exact ⟨rfl,rfl⟩
  | 1,_=>exact ⟨rfl,rfl⟩
theorem eAt_enc (l:List DRange) (i:Nat) (hi:i<l.length):eAt (l.map encRange) i=encRange (l.getD i default):=by
  unfold eAt
  rw [List.getD_eq_getElem?_getD,List.getD_eq_getElem?_getD,List.getElem?_map,List.getElem?_eq_getElem hi]
  rfl
theorem put_get {a:Act} {n t:Nat} {u:Value} (hs:a.tmps.size=n) (ht:t<n):(a.put (some t) u).tmps.getD t undef=u:=by
  simp [Act.put,hs,ht]
theorem put_other {a:Act} {s t:Nat} {u:Value} (hne:s≠t):(a.put (some s) u).tmps.getD t undef=a.tmps.getD t undef:=by
  simp [Act.put,Array.getElem?_setIfInBounds,hne]
theorem s_sortR (l:List DRange) (hp:∀ x ∈ l,0≤x.Lo) (hl:l.length<4611686018427387904) {n0:Nat} {ops rest:List Oper} {oI oF oC:Oper} {env:List (Nat×V)} {heap:List (Nat×Option Blk)} {next nt:Nat} {Q:St→Prop} {x y:Operand} {r bx tI tF tb:Nat} {ts:Array TypeId}
    (hoI:oI.op = .makeInterface 40 x:=by rfl) (hx:opE env x=some (.own r):=by rfl) (hh:getH heap r=some (.row 146 2 (l.map encRange)):=by rfl) (hgI:guardV env ops oI.guard=some true:=by rfl) (hdI:oI.dst=some tI:=by rfl) (hnI:Nat.blt tI nt=true:=by rfl)
    (hoF:oF.op = .makeFunc (.func 296) #[] #[y]:=by rfl) (hy:opE ((tI,.any) :: env) y=some (.ptr bx 0 0 0):=by rfl) (hhb:getH heap bx=some (.box tb [.own r]):=by rfl) (hgF:guardV ((tI,.any) :: env) ops oF.guard=some true:=by rfl) (hdF:oF.dst=some tF:=by rfl) (hnF:Nat.blt tF nt=true:=by rfl) (hne:Nat.beq tF tI=false:=by rfl)
    (hoC:oC.op = .call { callee:=.value (.func 295),args:=#[.tmp tI,.tmp tF],argTypes:=ts }:=by rfl) (hgC:guardV ((tF,.any) :: (tI,.any) :: env) ops oC.guard=some true:=by rfl) (hdC:dstOk nt oC.dst=true:=by rfl)
    (h:∀ m,(∀ x,x ∈ m ↔ x ∈ l)→m.length=l.length→sortL 0 m→RunL Tryz.prog n0 ops.toArray rest ((⟨(tF,.any) :: (tI,.any) :: env,(r,some (.row 146 2 (m.map encRange))) :: heap,next,nt⟩:St).put oC.dst (.tup [])) Q) :
    RunL Tryz.prog n0 ops.toArray (oI :: oF :: oC :: rest) ⟨env,heap,next,nt⟩ Q:=fun F base w0 ρ a w hH hE=>by
  have hv:=own_inv (opE_sound hE hx)
  obtain ⟨hs0,v,xs,e1,⟨e2,e2b⟩,e3,e4⟩:=hH.blk _ _ hh
  rw [hv] at e1
  injection e1 with e1
  have h4:∀ i j,i<l.length→j<2→xs[i * 2+j]? = some ((eR (l.getD i default)).getD j undef):=fun i j hi hj=>by
    obtain ⟨u,hu,hpu,_⟩:=e4 i j (by simpa using hi) hj
    rw [eAt_enc l i hi,(encR_cell _ j hj).1] at hpu
    rw [hu]
    cases hpu with
    | lit v h=>rfl
  obtain ⟨b,us,f1,f2,f3,f4,f5⟩:=hH.blk _ _ hhb
  have hbv:us.getD 0 undef=v:=by
    have:=own_inv (f5 0 (by simp)).1
    rw [hv] at this
    injection this with this
    rw [← this,e1]
  have hus:us[0]? = some v:=by
    rw [← hbv,Array.getD_eq_getD_getElem?]
    have:0<us.size:=by rw [f4];simp
    simp [this]
  have hbc:w.cell? ⟨b,0,none⟩=some v:=by simp [World.cell?,f3,hus]
  refine wpList_step fun K hK=>?_
  rw [if_pos (guardV_spec hE hgI)]
  refine wp_of_value (u:=.iface 40 v) (w':=w) ?_ ?_
  · unfold execOp;rw [hoI]
    simp only [e1]
    rfl
  rw [hdI]
  refine hK _ _ ?_
  have hE1:=hE.put (Nat.le_of_ble_eq_true hnI) (v:=.any) (u:=.iface 40 v) (.any _)
  clear hK K
  refine wpList_step fun K hK=>?_
  rw [if_pos (guardV_spec hE1 hgF)]
  obtain ⟨r',b',g1,g2,g3⟩:=ptr_inv (opE_sound hE1 hy)
  rw [f1] at g1
  injection g1 with g1
  subst g1
  simp only [blockOf,Option.some.injEq] at g2
  subst g2
  refine wp_of_value (u:=.func (.func 296) #[] #[.pointer (some ⟨b,0,none⟩)]) (w':=w) ?_ ?_
  · unfold execOp;rw [hoF]
    simp [Instr.makeFunc,Sem.run_bind,Sem.run_pure,g3]
  rw [hdF]
  refine hK _ _ ?_
  have hE2:=hE1.put (Nat.le_of_ble_eq_true hnF) (v:=.any) (u:=.func (.func 296) #[] #[.pointer (some ⟨b,0,none⟩)]) (.any _)
  have t1:((a.put (some tI) (.iface 40 v)).put (some tF) (.func (.func 296) #[] #[.pointer (some ⟨b,0,none⟩)])).tmps.getD tI undef = .iface 40 v:=by
    rw [put_other (fun e=>by rw [e] at hne;simp at hne),put_get hE.size (Nat.le_of_ble_eq_true hnI)]
  have t2:((a.put (some tI) (.iface 40 v)).put (some tF) (.func (.func 296) #[] #[.pointer (some ⟨b,0,none⟩)])).tmps.getD tF undef=(.func (.func 296) #[] #[.pointer (some ⟨b,0,none⟩)]):=
    put_get hE1.size (Nat.le_of_ble_eq_true hnF)
  clear hK K
  generalize (a.put (some tI) (.iface 40 v)).put (some tF) (.func (.func 296) #[] #[.pointer (some ⟨b,0,none⟩)])=a2 at t1 t2 hE2 ⊢
  refine wpList_step fun K hK=>?_
  rw [if_pos (guardV_spec hE2 hgC)]
  unfold Oper.wp
  rw [run_call hoC (by kernel_rfl) a2 w,Oper.upon_enter]
  have hargs:(#[Operand.tmp tI,Operand.tmp tF].map a2.eval) = #[.iface 40 v,.func (.func 296) #[] #[.pointer (some ⟨b,0,none⟩)]]:=by
    simp only [List.map_toArray,List.map_cons,List.map_nil,Act.eval,t1,t2]
  rw [hargs]
  have done:∀ (m:List DRange) (w':World) (row:Option Nat),(∀ x,x ∈ m ↔ x ∈ l)→m.length=l.length→sortL 0 m→w.grownBy w' row→(∀ k,row=some k→v.ownBlock=some k) →
      (∃ xs',w'.ownsRow 0 146 2 v m.length xs' ∧ ∀ i j,i<m.length→j<2→xs'[i * 2+j]? = some ((eR (m.getD i default)).getD j undef))→K (a2.put oC.dst (.tuple #[])) w':=fun m w' row hm hml hsm hg hrow ⟨xs',hx1,hx2⟩=>by
    refine hK _ _ ?_
    have hbr:∀ k,v.ownBlock=some k→blockOf v=some k:=fun k hk=>by
      rcases e2.2 with ⟨rfl,_⟩ | ⟨g,cap,cur,rfl,_⟩
      · cases hk
      · exact hk
    have hns:∀ k,row=some k → ¬ Stab F ρ heap k:=fun k hk hs=>hs.2 r _ _ hh rfl hv (by rw [e1];exact hbr k (hrow k hk))
    obtain ⟨q1,q2,q3⟩:=hH.step (ρ':=ρ) (heap':=(r,some (.row 146 2 (m.map encRange))) :: heap) (next':=next) r row hg
      (fun k hk=>⟨e2b k (hbr k (hrow k hk)),hns k hk⟩) (fun _ _ h=>h) (fun id u h=>hH.sup id u h)
      (fun i B hne hB=>by
        rw [getH_new,if_neg (Ne.symm hne)] at hB
        refine ⟨hB,?_⟩
        obtain ⟨u,hu⟩:=hH.some_of hB
        exact ⟨u,hu,fun ho b' hb e=>hne (hH.inj i r B _ u _ b' hB hh ho rfl hu hv hb (by rw [e1];exact hbr b' (hrow b' e)))⟩)
      (fun B u b' hB ho hu hb=>by
        rw [hv] at hu;injection hu with hu;subst hu
        refine .inr ⟨fun hs=>hs.2 r _ _ hh rfl hv hb,fun i B' u' hne hB' ho' hu' hb'=>?_⟩
        rw [getH_new,if_neg (Ne.symm hne)] at hB'
        exact hne (hH.inj i r B' _ u' _ b' hB' hh ho' rfl hu' hv hb' hb))
      (fun B hB hS hsame=>by
        rw [getH_new,if_pos rfl] at hB;injection hB with hB;subst hB
        refine ⟨by omega,v,xs',by rw [hv,e1],⟨by rw [List.length_map];exact hx1,e2b⟩,fun i hi=>?_,fun i j hi hj=>?_⟩
        · rw [List.length_map] at hi
          rw [eAt_enc m i hi];rfl
        · rw [List.length_map] at hi
          refine ⟨_,hx2 i j hi hj,?_,(encR_cell _ j hj).2⟩
          rw [eAt_enc m i hi,(encR_cell _ j hj).1]
          exact .lit _ (encR_cell _ j hj).2)
    obtain ⟨p1,p2⟩:=put_heap ⟨(tF,.any) :: (tI,.any) :: env,(r,some (.row 146 2 (m.map encRange))) :: heap,next,nt⟩ oC.dst (.tup [])
    have hE3:=hE2.mono q2 q3 (fun _ _ h=>h)
    exact h m hm hml hsm F base w0 ρ _ w' (by rw [p1,p2];exact q1) (by rw [p1];exact ERel.putD (st:=⟨(tF,.any) :: (tI,.any) :: env,(r,some (.row 146 2 (m.map encRange))) :: heap,next,nt⟩) hE3 hdC (.tup rfl (fun j hj=>by simp at hj)))
  by_cases h2:2≤l.length
  · rcases e2.2 with ⟨_,h0⟩ | ⟨g,cap,cur,hve,hgb,hg,hnc,hcm,hcs,htake⟩
    · rw [List.length_map] at h0;omega
    · rw [List.length_map] at hve hnc htake
      have hcR:cellsR cur l:=fun i j hi hj=>by
        have:=h4 i j hi hj
        rw [← htake,List.getElem?_take,if_pos (by omega),Array.getElem?_toList] at this
        exact this
      have hbg:b≠g:=fun e=>by
        have h5:=hH.inj bx r _ _ _ _ b hhb hh rfl rfl f1 hv rfl (by rw [e1,hve,e];rfl)
        rw [h5,hh] at hhb
        cases hhb
      rw [hve] at hbc ⊢
      refine (sortR l hp h2 hl w g cap b cur hg hcR hbc hbg).mono ?_
      rintro e w' ⟨rfl,m,cur',hm,hml,hsm,hgr,hg',hsz,hcm'⟩
      refine done m w' (some g) hm hml hsm hgr (fun k hk=>by injection hk with hk;subst hk;rw [hve];rfl) ⟨cur'.toList.take (m.length * 2),⟨by rw [List.length_take];simp;omega,.inr ⟨g,cap,cur',by rw [hve,hml],hgb,hg',by omega,hcm,by omega,rfl⟩⟩,fun i j hi hj=>?_⟩
      rw [List.getElem?_take,if_pos (by omega),Array.getElem?_toList]
      exact hcm' i j (by omega) hj
  · have hve:∃ p cap,v = .slice p l.length cap:=by
      rcases e2.2 with ⟨h0,h1⟩ | ⟨g,cap,cur,hve,_⟩
      · rw [List.length_map] at h1
        exact ⟨none,0,by rw [h0,h1]⟩
      · rw [List.length_map] at hve
        exact ⟨_,_,hve⟩
    obtain ⟨p,cap,hve⟩:=hve
    have hcall:=sortR1 l hp (by omega) p cap (.func 296) #[] #[.pointer (some ⟨b,0,none⟩)] w
    rw [← hve] at hcall
    refine hcall.mono ?_
    rintro e w' ⟨rfl,hsm,os,rfl⟩
    have hgr:w.grownBy (grow w os) none:=⟨rfl,rfl,rfl,by simp,fun k hk _=>heap_grow_old w os hk⟩
    refine done l _ none (fun x=>Iff.rfl) rfl hsm hgr (fun k hk=>by cases hk) ⟨xs,?_,h4⟩
    have:=e2.kept hgr (by
      cases hob:v.ownBlock with
      | none=>exact .inl rfl
      | some k=>exact .inr (by simp))
    rwa [List.length_map] at this
end Go.Proofs.YtendheafcbickaaGreat
