
import Derived.Test.YtendheafcbickaaGreatTZip
import Derived.Test.YtendheafcbickaaGreatTMg18
import Derived.Test.YtendheafcbickaaGreatTAbsB
set_option linter.unusedVariables false
set_option linter.unusedSimpArgs false
namespace Go.Proofs.YtendheafcbickaaGreat
open Go.Shelf Go.RowKit Go.Lib Go.Sort
set_option maxRecDepth 100000
theorem Ml:∀ (m:List aQ) (a:Int),(∀ x ∈ m,a<=x.bs)->(∀ i j,i<j->j<m.length->(m.getD i default).bs<=(m.getD j default).bs)->mE a m
 | [],_,_,_=>trivial
 | x :: m,a,I,J=>⟨I x (List.mem_cons_self ..),Ml m x.bs (fun y ai=>by
   obtain ⟨i,hi,rfl⟩:=List.getElem_of_mem ai
   have:=J 0 (i+1) (by omega) (by simp;omega)
   simpa[List.getD_eq_getElem?_getD,hi] using this) (fun i j hi ah=>by
   have:=J (i+1) (j+1) (by omega) (by simp;omega)
   simpa using this)⟩
theorem Mm (l:List aQ) (i:Nat):l.toArray[i]! = l.getD i default:=by
 simp[Array.getElem!_eq_getD,List.getD_eq_getElem?_getD]
theorem Mn (x:aQ):(j5 x).length=2:=rfl
def F8 (dp:Array Value) (l:List aQ):Prop:=∀ i j,i<l.length->j<2->dp[i * 2+j]? = some ((j5 (l.getD i default)).getD j undef)
theorem Uv (w:World) (n g:Nat) (f:Array Value->Array Value) (os:Array Obj):w.grownBy (grow (mapBlock (Sort.ahead w n) g f) os) (some g):=
 ⟨rfl,rfl,rfl,by simp[mapBlock,Sort.ahead],fun k ag c9=>by
  rw[heap_grow_old _ _ (by simpa[mapBlock,Sort.ahead] using ag)]
  simp only[mapBlock,Sort.ahead,Array.getElem?_modify]
  rw[if_neg (fun e=>c9 (by rw[e]))]⟩
theorem Uw (l:List aQ) (aw:∀ x ∈ l,0<=x.bs) (J:2<=l.length) (aq:l.length<4611686018427387904) (w:World) (g cap nd:Nat) (dp:Array Value) (aj:w.heap[g]? = some (.cells dp 146 (0,0)))
  (hc:F8 dp l) (BA:w.cell? ⟨nd,0,none⟩=some (.slice (some ⟨g,0,none⟩) l.length cap)) (c9:nd≠g) :
  Calls Tryz.prog 295 #[.iface 40 (.slice (some ⟨g,0,none⟩) l.length cap),.func (.func 296) #[] #[.pointer (some ⟨nd,0,none⟩)]] w fun e aE=>
   e = .returned (.tuple #[]) /\ ∃ m vm,(∀ x,x ∈ m ↔ x ∈ l)/\m.length=l.length/\mE 0 m/\w.grownBy aE (some g)/\aE.heap[g]? = some (.cells vm 146 (0,0))/\vm.size=dp.size/\F8 vm m:=by
 have cj:=(Array.getElem?_eq_some_iff.1 aj).1
 have ak:HoldsK j5 2 w g 0 l.toArray:=fun j ah=>by
  rw[size_flatK] at ah
  have Ld:j<l.length * 2:=by simpa using ah
  rw[get_flatK _ _ _ _ ah]
  refine ⟨?_,?_⟩
  ·have h:=hc (j / 2) (j % 2) (by omega) (by omega)
   rw[show j / 2 * 2+j % 2=j by omega] at h
   simp only[World.cell?,aj,Nat.zero_add,id_eq]
   rw[Mm]
   have av:j % 2<(j5 (l.getD (j / 2) default)).length:=by rw[Mn];omega
   rw[List.getD_eq_getElem?_getD,List.getElem?_eq_getElem av,Option.getD_some] at h
   rw[getElem!_pos (j5 (l.getD (j / 2) default)) (j % 2) av]
   simpa using h
  ·simp[World.frozen?,aj]
 have dZ:l.toArray.size=l.length:=by simp
 have h:=Ux g 0 cap nd l.toArray (by rw[dZ];exact J) (by rw[dZ];exact aq) w ak cj (by rw[dZ];exact BA) (World.block_lt_of_cell? w _ BA) c9
 rw[dZ] at h
 refine h.mono ?_
 rintro e aE ⟨rfl,kH,n,os,Uy,Uz,rfl⟩
 obtain ⟨dD,c7,fb⟩:=Uy
 have qG:kH.size=l.length:=by rw[dD,dZ]
 have Mo:kH.toList.Perm l:=by
  have aH:kH.extract 0 l.length=kH:=by rw[<- qG];simp
  have aN:l.toArray.extract 0 l.length=l.toArray:=by rw[<- dZ];simp
  rw[aH,aN] at fb
  simpa using fb
 have mU:∀ i,kH[i]! = kH.toList.getD i default:=fun i=>by
  have:=Mm kH.toList i
  simpa using this
 refine ⟨rfl,kH.toList,putCells id 0 (flatK j5 2 kH) dp,fun x=>Mo.mem_iff,by simpa using qG,?_,Uv w n g _ os,?_,by simp[putCells],fun i j hi ah=>?_⟩
 ·refine Ml _ 0 (fun x U=>aw x (Mo.mem_iff.1 U)) (fun i j hi ah=>?_)
  have:=Uz i j (Nat.zero_le _) hi (by simpa[qG] using ah)
  rw[mU,mU] at this
  simp only[sc,decide_eq_false_iff_not] at this
  omega
 ·rw[heap_grow_old _ _ (by simpa[putRowK,putRow,mapBlock,Sort.ahead] using cj)]
  simp only[putRowK,putRow,mapBlock,Sort.ahead,Array.getElem?_modify,if_true,aj,Option.map_some,onCells]
 ·have By:i<kH.size:=by simpa using hi
  have hlen:i * 2+j<kH.size * 2:=by omega
  have F9:i * 2+j<dp.size:=by
   have:=hc i j (by omega) ah
   exact(Array.getElem?_eq_some_iff.1 this).1
  unfold putCells
  rw[Array.getElem?_mapIdx,Array.getElem?_eq_getElem F9,Option.map_some,if_pos ⟨Nat.zero_le _,by rw[size_flatK,Nat.zero_add];exact hlen⟩,Nat.sub_zero,get_flatK _ _ _ _ hlen]
  rw[show(i * 2+j) / 2=i by omega,show(i * 2+j) % 2=j by omega,mU]
  have av:j<(j5 (kH.toList.getD i default)).length:=by rw[Mn];exact ah
  rw[getElem!_pos (j5 (kH.toList.getD i default)) j av,List.getD_eq_getElem?_getD (l:=j5 _),List.getElem?_eq_getElem av]
  rfl
theorem UA (l:List aQ) (aw:∀ x ∈ l,0<=x.bs) (I:l.length<=1) (p:Option Addr) (cap:Nat) (Ga:Go.Fn) (la Gb:Array Value) (w:World) :
  Calls Tryz.prog 295 #[.iface 40 (.slice p l.length cap),.func Ga la Gb] w fun e aE=>e = .returned (.tuple #[])/\mE 0 l /\ ∃ os,aE = grow w os:=by
 have lS:Lib.swapperK l.length tJ 25=l.length+1:=by
  rcases Nat.eq_zero_or_pos l.length with h|h
  ·rw[h];simp[Lib.swapperK]
  ·rw[show l.length=1 by omega];simp[Lib.swapperK]
 have ap:mE 0 l:=by
  match l,I with
  | [],_=>trivial
  | [x],_=>exact⟨aw x (List.mem_cons_self ..),trivial⟩
 have key : ∀ f, Tryz.prog.funcs.findIdx? (·.name == "internal/reflectlite" ++ ".Swapper$" ++ toString (Lib.swapperK l.length tJ 25)) = some f -> Calls Tryz.prog 295 #[.iface 40 (.slice p l.length cap), .func Ga la Gb] w fun e aE => e = .returned (.tuple #[]) /\ mE 0 l /\ ∃ os, aE = grow w os := fun f hf => by
  have:=Any.sort_Slice_tiny Mp 40 146 Mq tJ ae ae ae ae 25 (fun _=>by kernel_rfl) p l.length cap I f hf Ga la Gb w
  exact Calls.mono this (fun e aE h=>⟨h.1,ap,h.2⟩)
 rcases Nat.eq_zero_or_pos l.length with h|h
 ·refine key 315 ?_
  rw[lS,h];kernel_rfl
 ·have eO:l.length=1:=by omega
  refine key 316 ?_
  rw[lS,eO];kernel_rfl
theorem BB (x:aQ) (j:Nat) (ah:j<2):bx (aD x) j = .lit ((j5 x).getD j undef)/\((j5 x).getD j undef).oneCell' = true:=by
 match j,ah with
 | 0,_=>exact⟨rfl,rfl⟩
 | 1,_=>exact⟨rfl,rfl⟩
theorem zp (l:List aQ) (i:Nat) (hi:i<l.length):bH (l.map aD) i=aD (l.getD i default):=by
 unfold bH
 rw[List.getD_eq_getElem?_getD,List.getD_eq_getElem?_getD,List.getElem?_map,List.getElem?_eq_getElem hi]
 rfl
theorem Mr {a:Act} {n t:Nat} {u:Value} (ap:a.tmps.size=n) (ht:t<n):(a.put (some t) u).tmps.getD t undef=u:=by
 simp[Act.put,ap,ht]
theorem UB {a:Act} {s t:Nat} {u:Value} (c9:s≠t):(a.put (some s) u).tmps.getD t undef=a.tmps.getD t undef:=by
 simp[Act.put,Array.getElem?_setIfInBounds,c9]
theorem OV (l:List aQ) (aw:∀ x ∈ l,0<=x.bs) (aq:l.length<4611686018427387904) {n0:Nat} {ops rest:List Oper} {BC BD tK:Oper} {env:List (Nat×V)} {heap:List (Nat×Option aY)} {next ad:Nat} {Q:ba->Prop} {x y:Operand} {r BE mF nK sZ:Nat} {ts:Array TypeId}
  (UC:BC.op = .makeInterface 40 x:=by rfl) (U:aI env x=some (.own r):=by rfl) (hh:bd heap r=some (.row 146 2 (l.map aD)):=by rfl) (UD:bW env ops BC.guard=some true:=by rfl) (UE:BC.dst=some mF:=by rfl) (Ms:Nat.blt mF ad=true:=by rfl)
  (UF:BD.op = .makeFunc (.func 296) #[] #[y]:=by rfl) (ai:aI ((mF,.any) :: env) y=some (.ptr BE 0 0 0):=by rfl) (BF:bd heap BE=some (.box sZ [.own r]):=by rfl) (UG:bW ((mF,.any) :: env) ops BD.guard=some true:=by rfl) (UH:BD.dst=some nK:=by rfl) (Mt:Nat.blt nK ad=true:=by rfl) (c9:Nat.beq nK mF=false:=by rfl)
  (UI:tK.op = .call { callee:=.value (.func 295),args:=#[.tmp mF,.tmp nK],argTypes:=ts }:=by rfl) (UJ:bW ((nK,.any) :: (mF,.any) :: env) ops tK.guard=some true:=by rfl) (UK:lR ad tK.dst=true:=by rfl)
  (h:∀ m,(∀ x,x ∈ m ↔ x ∈ l)->m.length=l.length->mE 0 m->a8 Tryz.prog n0 ops.toArray rest ((⟨(nK,.any) :: (mF,.any) :: env,(r,some (.row 146 2 (m.map aD))) :: heap,next,ad⟩:ba).put tK.dst (.b0 [])) Q) :
  a8 Tryz.prog n0 ops.toArray (BC :: BD :: tK :: rest) ⟨env,heap,next,ad⟩ Q:=fun F base w0 ρ a w ak ay=>by
 have hv:=mR (c0 ay U)
 obtain ⟨Km,v,xs,aH,⟨aN,xd⟩,bS,eK⟩:=ak.dB _ _ hh
 rw[hv] at aH
 injection aH with aH
 have bl:∀ i j,i<l.length->j<2->xs[i * 2+j]? = some ((j5 (l.getD i default)).getD j undef):=fun i j hi ah=>by
  obtain ⟨u,hu,mW,_⟩:=eK i j (by simpa using hi) ah
  rw[zp l i hi,(BB _ j ah).1] at mW
  rw[hu]
  cases mW with
  | lit v h=>rfl
 obtain ⟨b,us,f1,f2,f3,f4,f5⟩:=ak.dB _ _ BF
 have UL:us.getD 0 undef=v:=by
  have:=mR (f5 0 (by simp)).1
  rw[hv] at this
  injection this with this
  rw[<- this,aH]
 have mm:us[0]? = some v:=by
  rw[<- UL,Array.getD_eq_getD_getElem?]
  have:0<us.size:=by rw[f4];simp
  simp[this]
 have Mu:w.cell? ⟨b,0,none⟩=some v:=by simp[World.cell?,f3,mm]
 refine wpList_step fun K lS=>?_
 rw[if_pos (py ay UD)]
 refine my (u:=.iface 40 v) (aE:=w) ?_ ?_
 ·unfold execOp;rw[UC]
  simp only[aH]
  rfl
 rw[UE]
 refine lS _ _ ?_
 have BG:=ay.put (Nat.le_of_ble_eq_true Ms) (v:=.any) (u:=.iface 40 v) (.any _)
 clear lS K
 refine wpList_step fun K lS=>?_
 rw[if_pos (py BG UG)]
 obtain ⟨fT,gO,g1,g2,g3⟩:=pv (c0 BG ai)
 rw[f1] at g1
 injection g1 with g1
 subst g1
 simp only[dY,Option.some.injEq] at g2
 subst g2
 refine my (u:=.func (.func 296) #[] #[.pointer (some ⟨b,0,none⟩)]) (aE:=w) ?_ ?_
 ·unfold execOp;rw[UF]
  simp[Instr.makeFunc,Sem.run_bind,Sem.run_pure,g3]
 rw[UH]
 refine lS _ _ ?_
 have r8:=BG.put (Nat.le_of_ble_eq_true Mt) (v:=.any) (u:=.func (.func 296) #[] #[.pointer (some ⟨b,0,none⟩)]) (.any _)
 have t1:((a.put (some mF) (.iface 40 v)).put (some nK) (.func (.func 296) #[] #[.pointer (some ⟨b,0,none⟩)])).tmps.getD mF undef = .iface 40 v:=by
  rw[UB (fun e=>by rw[e] at c9;simp at c9),Mr ay.size (Nat.le_of_ble_eq_true Ms)]
 have t2:((a.put (some mF) (.iface 40 v)).put (some nK) (.func (.func 296) #[] #[.pointer (some ⟨b,0,none⟩)])).tmps.getD nK undef=(.func (.func 296) #[] #[.pointer (some ⟨b,0,none⟩)]):=
  Mr BG.size (Nat.le_of_ble_eq_true Mt)
 clear lS K
 generalize (a.put (some mF) (.iface 40 v)).put (some nK) (.func (.func 296) #[] #[.pointer (some ⟨b,0,none⟩)])=a2 at t1 t2 r8 ⊢
 refine wpList_step fun K lS=>?_
 rw[if_pos (py r8 UJ)]
 unfold Oper.wp
 rw[AV UI ae a2 w,Oper.upon_enter]
 have mj:(#[Operand.tmp mF,Operand.tmp nK].map a2.eval) = #[.iface 40 v,.func (.func 296) #[] #[.pointer (some ⟨b,0,none⟩)]]:=by
  simp only[List.map_toArray,List.map_cons,List.map_nil,Act.eval,t1,t2]
 rw[mj]
 have done:∀ (m:List aQ) (aE:World) (row:Option Nat),(∀ x,x ∈ m ↔ x ∈ l)->m.length=l.length->mE 0 m->w.grownBy aE row->(∀ k,row=some k->v.ownBlock=some k) ->
   (∃ BH,aE.ownsRow 0 146 2 v m.length BH /\ ∀ i j,i<m.length->j<2->BH[i * 2+j]? = some ((j5 (m.getD i default)).getD j undef))->K (a2.put tK.dst (.tuple #[])) aE:=fun m aE row hm qT jJ aj uL ⟨BH,UM,zO⟩=>by
  refine lS _ _ ?_
  have Gc:∀ k,v.ownBlock=some k->dY v=some k:=fun k ag=>by
   rcases aN.2 with⟨rfl,_⟩ | ⟨g,cap,dp,rfl,_⟩
   ·cases ag
   ·exact ag
  have px:∀ k,row=some k -> ¬ bC F ρ heap k:=fun k ag ap=>ap.2 r _ _ hh rfl hv (by rw[aH];exact Gc k (uL k ag))
  obtain ⟨aT,a1,bz⟩:=ak.step (bm:=ρ) (cS:=(r,some (.row 146 2 (m.map aD))) :: heap) (next':=next) r row aj
   (fun k ag=>⟨xd k (Gc k (uL k ag)),px k ag⟩) (fun _ _ h=>h) (fun id u h=>ak.sup id u h)
   (fun i B c9 aB=>by
    rw[ea,if_neg (Ne.symm c9)] at aB
    refine ⟨aB,?_⟩
    obtain ⟨u,hu⟩:=ak.oM aB
    exact⟨u,hu,fun aa gO hb e=>c9 (ak.inj i r B _ u _ gO aB hh aa rfl hu hv hb (by rw[aH];exact Gc gO (uL gO e)))⟩)
   (fun B u gO aB aa hu hb=>by
    rw[hv] at hu;injection hu with hu;subst hu
    refine .inr ⟨fun ap=>ap.2 r _ _ hh rfl hv hb,fun i bT ev c9 cJ eJ ec dl=>?_⟩
    rw[ea,if_neg (Ne.symm c9)] at cJ
    exact c9 (ak.inj i r bT _ ev _ gO cJ hh eJ rfl ec hv dl hb))
   (fun B aB hS eV=>by
    rw[ea,if_pos rfl] at aB;injection aB with aB;subst aB
    refine ⟨by omega,v,BH,by rw[hv,aH],⟨by rw[List.length_map];exact UM,xd⟩,fun i hi=>?_,fun i j hi ah=>?_⟩
    ·rw[List.length_map] at hi
     rw[zp m i hi];rfl
    ·rw[List.length_map] at hi
     refine ⟨_,zO i j hi ah,?_,(BB _ j ah).2⟩
     rw[zp m i hi,(BB _ j ah).1]
     exact .lit _ (BB _ j ah).2)
  obtain ⟨dD,c7⟩:=AO ⟨(nK,.any) :: (mF,.any) :: env,(r,some (.row 146 2 (m.map aD))) :: heap,next,ad⟩ tK.dst (.b0 [])
  have UN:=r8.mono a1 bz (fun _ _ h=>h)
  exact h m hm qT jJ F base w0 ρ _ aE (by rw[dD,c7];exact aT) (by rw[dD];exact eR.xg (st:=⟨(nK,.any) :: (mF,.any) :: env,(r,some (.row 146 2 (m.map aD))) :: heap,next,ad⟩) UN UK (.b0 rfl (fun j ah=>by simp at ah)))
 by_cases J:2<=l.length
 ·rcases aN.2 with⟨_,af⟩ | ⟨g,cap,dp,oe,UO,aj,qz,te,iW,tf⟩
  ·rw[List.length_map] at af;omega
  ·rw[List.length_map] at oe qz tf
   have UP:F8 dp l:=fun i j hi ah=>by
    have:=bl i j hi ah
    rw[<- tf,List.getElem?_take,if_pos (by omega),Array.getElem?_toList] at this
    exact this
   have uQ:b≠g:=fun e=>by
    have dm:=ak.inj BE r _ _ _ _ b BF hh rfl rfl f1 hv rfl (by rw[aH,oe,e];rfl)
    rw[dm,hh] at BF
    cases BF
   rw[oe] at Mu ⊢
   refine (Uw l aw J aq w g cap b dp aj UP Mu uQ).mono ?_
   rintro e aE ⟨rfl,m,vm,hm,qT,jJ,BI,oV,dZ,UQ⟩
   refine done m aE (some g) hm qT jJ BI (fun k ag=>by injection ag with ag;subst ag;rw[oe];rfl) ⟨vm.toList.take (m.length * 2),⟨by rw[List.length_take];simp;omega,.inr ⟨g,cap,vm,by rw[oe,qT],UO,oV,by omega,te,by omega,rfl⟩⟩,fun i j hi ah=>?_⟩
   rw[List.getElem?_take,if_pos (by omega),Array.getElem?_toList]
   exact UQ i j (by omega) ah
 ·have oe:∃ p cap,v = .slice p l.length cap:=by
   rcases aN.2 with⟨af,I⟩ | ⟨g,cap,dp,oe,_⟩
   ·rw[List.length_map] at I
    exact⟨none,0,by rw[af,I]⟩
   ·rw[List.length_map] at oe
    exact⟨_,_,oe⟩
  obtain ⟨p,cap,oe⟩:=oe
  have Mv:=UA l aw (by omega) p cap (.func 296) #[] #[.pointer (some ⟨b,0,none⟩)] w
  rw[<- oe] at Mv
  refine Mv.mono ?_
  rintro e aE ⟨rfl,jJ,os,rfl⟩
  have BI:w.grownBy (grow w os) none:=⟨rfl,rfl,rfl,by simp,fun k ag _=>heap_grow_old w os ag⟩
  refine done l _ none (fun x=>Iff.rfl) rfl jJ BI (fun k ag=>by cases ag) ⟨xs,?_,bl⟩
  have:=aN.kept BI (by
   cases ti:v.ownBlock with
   | none=>exact .inl rfl
   | some k=>exact .inr (by simp))
  rwa [List.length_map] at this
end Go.Proofs.YtendheafcbickaaGreat
