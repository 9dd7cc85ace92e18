
import Derived.Test.YtendheafcbickaaGreatTZip
import Derived.Test.YtendheafcbickaaGreatTAbsA
import Derived.Great.BuildSlice
import Derived.Laws.StructEq
import Derived.Deep.OwnRows
import Derived.ChangeMaps5
import Derived.Lib.AppendStr
import Derived.Laws.RangeString
set_option linter.unusedVariables false
set_option linter.unusedSimpArgs false
namespace Go.Proofs.YtendheafcbickaaGreat
section
open Go.RowKit
def bZ (l:List UInt8):ByteArray:=⟨l.toArray⟩
theorem tp (l:List UInt8):(bZ l).size=l.length:=by simp[bZ,ByteArray.size]
theorem FC (l:List UInt8):(bZ l).data.toList=l:=by simp[bZ]
theorem Bg {l m:List UInt8}:bZ l=bZ m ↔ l=m:=⟨fun h=>by rw[<- FC l,h,FC],fun h=>by rw[h]⟩
theorem K9 (l m:List UInt8):bZ l++bZ m=bZ (l++m):=by apply ByteArray.ext;simp[bZ]
def aC (c:UInt8):List V:=[.lit (.int .u8 (c.toNat:Int))]
noncomputable def yes (p:Prop):Bool:=@decide p (Classical.propDecidable p)
theorem uF {p:Prop}:yes p=true ↔ p:=by unfold yes;exact @decide_eq_true_iff p (Classical.propDecidable p)
theorem FD {p:Prop}:yes p=false ↔ ¬ p:=by unfold yes;exact @decide_eq_false_iff_not p (Classical.propDecidable p)
theorem qZ {p:Prop} (h:¬ p):yes p=false:=FD.2 h
theorem nh {p:Prop} (h:p):yes p=true:=uF.2 h
theorem pV {p:Prop} (h:p):V.lit (.bool true) = .lit (.bool (yes p)):=by rw[nh h]
theorem nl {p:Prop} (h:¬ p):V.lit (.bool false) = .lit (.bool (yes p)):=by rw[qZ h]
section
variable {P:Program} {G:List Nat} {o:Oper} {st:ba}
theorem La {T cA:TypeId} {x y:Operand} {m n:Bool} (aa:o.op = .binOp .eql T x y cA) (U:aI st.env x=some (.lit (.bool m))) (ai:aI st.env y=some (.lit (.bool n))) (aV:P.underlying T=some .bool) :
  bw P G o st (.lit (.bool (decide (m=n)))):=ja aa U ai (fun w=>by
   have:=run_equalIn_bool (P:=P) w 9999 T m n aV
   have e:(m == n)=decide (m=n):=by cases m <;> cases n <;> rfl
   rw[e] at this
   simp[eqGuard,binOp,Op.equal,Op.maxDepth,Sem.run_bind,Sem.run_pure,this]) rfl
theorem Lb {T cA:TypeId} {x y:Operand} {m n:Bool} (aa:o.op = .binOp .neq T x y cA) (U:aI st.env x=some (.lit (.bool m))) (ai:aI st.env y=some (.lit (.bool n))) (aV:P.underlying T=some .bool) :
  bw P G o st (.lit (.bool (decide (¬ m=n)))):=ja aa U ai (fun w=>by
   have:=run_equalIn_bool (P:=P) w 9999 T m n aV
   have e:(m == n)=decide (m=n):=by cases m <;> cases n <;> rfl
   rw[e] at this
   simp[eqGuard,binOp,Op.equal,Op.maxDepth,Sem.run_bind,Sem.run_pure,this]) rfl
theorem Ext.none {w aE:World} {ρ:Nat->Option Value} (h:Ext (uM ρ []) w aE):dX (fun _=>True) w aE:=fun b _ hb=>h.block b hb (fun ⟨id,_,hm,_⟩=>by cases hm)
theorem Lc {T bR e:TypeId} {x:Operand} {v:V} {l:List UInt8} (aa:o.op = .convert T bR x) (U:aI st.env x=some v) (hv:ha st.heap v=some (l.map aC)) (aV:P.underlying T=some (.slice e)) (he:P.underlying e=some (.int .u8)) (h3:P.underlying bR=some .string) :
  bw P [] o st (.lit (.string (bZ l))):=fun F base w0 ρ a w ak ay _=>by
 refine ⟨_,.pure (.lit _ rfl),fun aE ka=>?_⟩
 unfold execOp;rw[aa];simp only[]
 have aq:∀ i,i<(l.map aC).length->(bH (l.map aC) i).length=1:=fun i hi=>by
  rw[List.length_map] at hi
  rw[je aC hi];rfl
 obtain ⟨A,c,news,hu,lJ,b1,hrel⟩:=Fl (F:=F) (base:=base) (w0:=w0) (next:=st.next) (ρ:=ρ) (heap:=st.heap) ak (c0 ay U) hv aq (by omega)
 rw[hu]
 simp only[List.length_map,Nat.mul_one] at lJ b1 hrel ⊢
 have jY:∀ j (ah:j<l.length) (a0:Addr),A=some a0->(∀ j u,news[j]? = some u->w.cell? (a0.add j)=some u)->aE.cell? (a0.add j)=some (.int .u8 (l[j].toNat:Int)):=by
  intro j ah a0 bj hn
  obtain ⟨u,I,J⟩:=hrel j 0 ah (by omega)
  simp only[Nat.add_zero] at I
  have hc:=hn j u I
  have Ld:l.getD j default=l[j]:=by rw[List.getD_eq_getElem?_getD,List.getElem?_eq_getElem ah];rfl
  rw[je aC ah,Ld] at J
  have e:bx (aC l[j]) 0 = .lit (.int .u8 (l[j].toNat:Int)):=rfl
  rw[e] at J
  cases J
  have iP:=World.block_lt_of_cell? w _ hc
  have:=ka.none _ trivial iP
  rw[<- hc]
  simp[World.cell?,this]
 by_cases af:l.length=0
 ·have:l=[]:=List.eq_nil_of_length_eq_zero af
  subst this
  rw[Sem.run_bind,run_convert_bytes_string aE T bR e A _ _ aV he h3]
  cases A with
  | none=>rfl
  | some a0=>
   have:=run_bytesToString (P:=P) aE a0 0 c [] (by have:=run_loadCells_list (P:=P) (w:=aE) a0 [] (fun j v ah=>by simp at ah);simpa using this)
   simp only[List.length_nil] at this ⊢
   rw[this];rfl
 ·rcases b1 with b1 | ⟨a0,bj,hn⟩
  ·omega
  ·subst bj
   simp only[Sem.run_bind,run_convert_bytes_back aE T bR e a0 c l aV he h3 (fun j ah=>jY j ah a0 rfl hn)];rfl
theorem Tj (l:List (List V)) (m i:Nat):bH (l.drop m) i=bH l (m+i):=by
 unfold bH;rw[List.getD_eq_getElem?_getD,List.getD_eq_getElem?_getD,List.getElem?_drop]
theorem Tk (l:List (List V)) {n i:Nat} (h:i<n):bH (l.take n) i=bH l i:=by
 unfold bH;rw[List.getD_eq_getElem?_getD,List.getD_eq_getElem?_getD,List.getElem?_take,if_pos h]
theorem Le {S:Nat->Prop} {w:World} {l:List (List V)} {u:Value} {s m n hV:Nat} (h:fP S w (.ro l) u) (gx:m<=n) (hn:n<=l.length) (hc:∀ A L c,u = .slice A L c->n<=hV /\ hV <= c) (ap:∀ i,i<l.length->(bH l i).length=s) :
  ∃ A L c,u = .slice A L c/\L=l.length/\L<=c/\fP S w (.ro ((l.take n).drop m)) (sliced A m n hV s):=by
 generalize hv:V.ro l=v at h
 cases h with
 | lit=>cases hv
 | ro fl A c dv b off us Bh hm aw b1 dZ jY hrel=>
  injection hv with hv;subst hv
  obtain ⟨aK,aX⟩:=hc _ _ _ rfl
  refine ⟨A,_,c,rfl,rfl,Bh,?_⟩
  have hlen:((l.take n).drop m).length=n - m:=by simp;omega
  have he:∀ i,i<n - m->bH ((l.take n).drop m) i=bH l (m+i):=fun i hi=>by rw[Tj,Tk l (by omega)]
  unfold sliced
  by_cases af:0<n - m
  ·have qE:0<l.length:=by omega
   obtain ⟨EX,rB⟩:=b1 qE
   have es:dv = s:=by rw[<- dZ 0 qE,ap 0 qE]
   subst es
   subst EX
   have c9:¬ hV = m:=by omega
   rw[if_neg c9]
   have e:(Option.map (fun x=>Addr.add x (m * dv)) (some (Addr.mk b off none)))=some ⟨b,off+m * dv,none⟩:=by simp[qp]
   rw[e]
   have:=fP.ro (S:=S) (w:=w) ((l.take n).drop m) (some ⟨b,off+m * dv,none⟩) (hV - m) dv b (off+m * dv) (fun i j=>us (m+i) j) (by rw[hlen];omega) (by unfold maxLen at *;omega) aw (fun _=>⟨rfl,rB⟩)
    (fun i hi=>by rw[hlen] at hi;rw[he i hi];exact dZ _ (by omega))
    (fun i j hi ah=>by
     rw[hlen] at hi
     have:=jY (m+i) j (by omega) ah
     rw[Nat.add_mul] at this
     rw[<- this];congr 2;omega)
    (fun i j hi ah=>by rw[hlen] at hi;rw[he i hi];exact hrel _ _ (by omega) ah)
   rwa [hlen] at this
  ·have pB:(l.take n).drop m=[]:=List.eq_nil_of_length_eq_zero (by omega)
   have bh:n - m=0:=by omega
   rw[pB,bh]
   exact .ro [] _ (hV - m) 1 0 0 (fun _ _=>undef) (by simp) (by unfold maxLen at *;omega) (by omega) (fun h=>by simp at h) (fun i hi=>by simp at hi) (fun i j hi=>by simp at hi) (fun i j hi=>by simp at hi)
def j3 (env:List (Nat×V)):Option Operand->Option (Option Int)
 | none=>some none
 | some y=>match aI env y with
  | some (.lit (.int _ n))=>some (some n)
  | _=>none
theorem Lf {t e:TypeId} (ht:P.underlying t=some (.slice e)):P.elem t=e:=by
 unfold Program.elem;rw[ht]
def r0 (heap:List (Nat×Option aY)):V->Option (List (List V))
 | .ro l=>some l
 | .lit (.slice none 0 0)=>some []
 | .own id=>match bd heap id with
  | some (.gb l)=>some l
  | _=>none
 | _=>none
theorem Lg {F:Nat->Prop} {base:Nat->Prop} {ρ:Nat->Option Value} {heap:List (Nat×Option aY)} {next:Nat} {w0 w:World} (ak:HRel0 F base ρ heap next w0 w) {v:V} {u:Value} (h:cC ρ (bC F ρ heap) w v u) {l:List (List V)} (hv:r0 heap v=some l):fP (bC F ρ heap) w (.ro l) u:=by
 unfold r0 at hv
 split at hv
 ·injection hv with hv;subst hv
  cases h with
  | pure h=>exact h
 ·injection hv with hv;subst hv
  rw[ff h]
  exact .ro [] none 0 1 0 0 (fun _ _=>undef) (by simp) pf (by omega) (fun h=>by simp at h) (fun i hi=>by simp at hi) (fun i j hi=>by simp at hi) (fun i j hi=>by simp at hi)
 ·split at hv
  ·rename_i hh
   injection hv with hv;subst hv
   obtain ⟨v,I,J,_⟩:=ak.dB _ _ hh
   rw[mR h] at I;injection I with I;subst I
   exact J
  ·cases hv
 ·cases hv
inductive qI:Option Value->Nat->Nat->Prop
 | none (d:Nat):qI none d d
 | some (k:IntKind) (n d:Nat):qI (some (.int k n)) d n
theorem Tl {t e s m n len cap:Nat} {A:Option Addr} {bJ hi:Option Value} (ht:P.underlying t=some (.slice e)) (ap:dt P e=some s) (eG:qI bJ 0 m) (h8:qI hi len n) (gx:m<=n) (hn:n<=cap) (w:World) :
  (Instr.sliceAt t (.slice A len cap) bJ hi none).run P w = .ok (sliced A m n cap s) w:=by
 have he:=Lf ht
 have qJ:P.underlying t=some (.slice (P.elem t)):=by rw[he];exact ht
 have qy:(sizeOf (P.elem t)).run P w = .ok s w:=by rw[he];exact qx ap w
 rw[run_sliceAt_slice w t _ _ _ _ qJ]
 cases eG with
 | none=>
  cases h8 with
  | none=>rw[run_slice_all w t A _ cap qJ,qy];rfl
  | some k n=>rw[run_slice_h w t A len cap qJ k n (by omega) (by omega),qy];simp[Result.andThen]
 | some k m=>
  cases h8 with
  | none=>rw[run_slice_l w t A _ cap qJ k m (by omega) (by omega),qy];simp[Result.andThen]
  | some bq n=>rw[run_slice_lh w t A len cap qJ k bq m n (by omega) (by omega) (by omega),qy];simp[Result.andThen]
theorem Tm {t e s m n hV len cap:Nat} {k:IntKind} {A:Option Addr} {bJ hi:Option Value} (ht:P.underlying t=some (.slice e)) (ap:dt P e=some s) (eG:qI bJ 0 m) (h8:qI hi len n) (xR:hi.isSome=true) (gx:m<=n) (hn:n<=hV) (hc:hV <= cap) (w:World) :
  (Instr.sliceAt t (.slice A len cap) bJ hi (some (.int k hV))).run P w = .ok (sliced A m n hV s) w:=by
 have he:=Lf ht
 have qJ:P.underlying t=some (.slice (P.elem t)):=by rw[he];exact ht
 have qy:(sizeOf (P.elem t)).run P w = .ok s w:=by rw[he];exact qx ap w
 rw[run_sliceAt_slice w t _ _ _ _ qJ]
 cases h8 with
 | none=>cases xR
 | some bq n=>
  cases eG with
  | none=>rw[run_slice_hm w t A len cap qJ bq k n hV (by omega) (by omega) (by omega),qy];simp[Result.andThen]
  | some gT m=>rw[run_slice_lhm w t A len cap qJ gT bq k m n hV (by omega) (by omega) (by omega) (by omega),qy];simp[Result.andThen]
theorem va {ρ:Nat->Option Value} {S:Nat->Prop} {w:World} {ad:Nat} {env:List (Nat×V)} {a:Act} (ay:eR ρ S w ad env a) {o:Option Operand} {b:Option Int} {m d:Nat} (h:j3 env o=some b) (hb:b.getD d=(m:Int)):qI (o.map a.eval) d m:=by
 cases o with
 | none=>
  simp only[j3,Option.some.injEq] at h
  subst h
  simp only[Option.getD_none] at hb
  have:d=m:=by omega
  subst this
  exact .none d
 | some y=>
  simp only[j3] at h
  split at h
  ·rename_i k n ai
   injection h with h;subst h
   simp only[Option.getD_some] at hb
   subst hb
   rw[Option.map_some,ff (c0 ay ai)]
   exact .some _ _ _
  ·cases h
theorem Lh {t e s m n:Nat} {x:Operand} {bJ hi:Option Operand} {v:V} {l:List (List V)} {a b:Option Int} (aa:o.op = .slice t x bJ hi none) (U:aI st.env x=some v) (hv:r0 st.heap v=some l) (eG:j3 st.env bJ=some a) (h8:j3 st.env hi=some b)
  (ht:P.underlying t=some (.slice e)) (ap:dt P e=some s) (ij:∀ i,i<l.length->(bH l i).length=s) (bj:a.getD 0=(m:Int)) (hb:b.getD l.length=(n:Int)) (gx:m<=n) (hn:n<=l.length):bw P G o st (.ro ((l.take n).drop m)):=
 hs fun F base w0 ρ ac w ak ay=>by
  have aw:=Lg ak (c0 ay U) hv
  have hex:∃ A L c,ac.eval x = .slice A L c/\L=l.length/\L<=c:=by
   generalize ac.eval x=u at aw
   cases aw with
   | ro=>exact⟨_,_,_,rfl,rfl,by assumption⟩
  obtain ⟨A,L,c,hu,dx,Tn⟩:=hex
  subst dx
  obtain ⟨Li,To,Tp,ec,_,_,hr⟩:=Le (hV:=c) aw gx hn (fun xS Tq aS af=>by rw[hu] at af;injection af with _ _ af;subst af;exact⟨by omega,Nat.le_refl _⟩) ij
  rw[hu] at ec;injection ec with aH aN bS;subst aH
  refine ⟨_,.pure hr,fun aE=>?_⟩
  unfold execOp;rw[aa];simp only[Option.map_none];rw[hu]
  simp only[Sem.run_bind,Tl ht ap (va ay eG bj) (va ay h8 hb) gx (show n<=c by omega) aE];rfl
theorem Tr {t e s m n hV:Nat} {x z:Operand} {bJ hi:Option Operand} {v:V} {l:List (List V)} {a b:Option Int} {r1:IntKind} {xT:Int} (aa:o.op = .slice t x bJ hi (some z)) (U:aI st.env x=some v) (hv:r0 st.heap v=some l) (eG:j3 st.env bJ=some a) (h8:j3 st.env hi=some b) (xR:hi.isSome=true) (bh:aI st.env z=some (.lit (.int r1 xT)))
  (ht:P.underlying t=some (.slice e)) (ap:dt P e=some s) (ij:∀ i,i<l.length->(bH l i).length=s) (bj:a.getD 0=(m:Int)) (hb:b.getD l.length=(n:Int)) (hc:xT=(hV:Int)) (gx:m<=n) (hn:n<=hV) (gK:hV <= l.length):bw P G o st (.ro ((l.take n).drop m)):=
 hs fun F base w0 ρ ac w ak ay=>by
  subst hc
  have aw:=Lg ak (c0 ay U) hv
  have hex:∃ A L c,ac.eval x = .slice A L c/\L=l.length/\L<=c:=by
   generalize ac.eval x=u at aw
   cases aw with
   | ro=>exact⟨_,_,_,rfl,rfl,by assumption⟩
  obtain ⟨A,L,c,hu,dx,Tn⟩:=hex
  subst dx
  obtain ⟨Li,To,Tp,ec,_,_,hr⟩:=Le (hV:=hV) aw gx (by omega) (fun xS Tq aS af=>by rw[hu] at af;injection af with _ _ af;subst af;exact⟨hn,by omega⟩) ij
  rw[hu] at ec;injection ec with aH aN bS;subst aH
  refine ⟨_,.pure hr,fun aE=>?_⟩
  unfold execOp;rw[aa];simp only[Option.map_some];rw[hu,ff (c0 ay bh)]
  simp only[Sem.run_bind,Tm ht ap (va ay eG bj) (va ay h8 hb) (by simpa using xR) gx hn (show hV <= c by omega) aE];rfl
theorem Ts {t m n:Nat} {str:ByteArray} {bJ hi:Option Value} (ht:P.underlying t=some .string) (eG:qI bJ 0 m) (h8:qI hi str.size n) (gx:m<=n) (hn:n<=str.size) (w:World) :
  (Instr.sliceAt t (.string str) bJ hi none).run P w = .ok (.string (str.extract m n)) w:=by
 rw[run_sliceAt_string w t _ _ _ _ ht]
 have hb:∀ (k:IntKind) (i y:Nat) (c:BoundsCode),i<=y->(Instr.sliceBound (.int k i) y c).run P w = .ok i w:=fun k i y c h=>by
  have:=run_sliceBound (P:=P) w k (i:Int) y c (by omega) (by omega)
  simpa using this
 cases eG with
 | none=>
  cases h8 with
  | none=>simp[Instr.slice,run_underlying ht,Instr.sliceBounds,Sem.run_bind,Sem.run_pure]
  | some k n=>simp[Instr.slice,run_underlying ht,Instr.sliceBounds,Sem.run_bind,Sem.run_pure,hb k n _ _ hn]
 | some k m=>
  cases h8 with
  | none=>simp[Instr.slice,run_underlying ht,Instr.sliceBounds,Sem.run_bind,Sem.run_pure,hb k m _ _ gx]
  | some bq n=>simp[Instr.slice,run_underlying ht,Instr.sliceBounds,Sem.run_bind,Sem.run_pure,hb k m _ _ gx,hb bq n _ _ hn]
theorem Lj {t m n:Nat} {x:Operand} {bJ hi:Option Operand} {l:List UInt8} {a b:Option Int} (aa:o.op = .slice t x bJ hi none) (U:aI st.env x=some (.lit (.string (bZ l)))) (eG:j3 st.env bJ=some a) (h8:j3 st.env hi=some b)
  (ht:P.underlying t=some .string) (bj:a.getD 0=(m:Int)) (hb:b.getD l.length=(n:Int)) (gx:m<=n) (hn:n<=l.length):bw P G o st (.lit (.string (bZ ((l.take n).drop m)))):=
 hs fun F base w0 ρ ac w ak ay=>by
  have dZ:(bZ l).size=l.length:=tp l
  refine ⟨_,.pure (.lit _ rfl),fun aE=>?_⟩
  unfold execOp;rw[aa];simp only[Option.map_none];rw[ff (c0 ay U)]
  have he:(bZ l).extract m n=bZ ((l.take n).drop m):=by
   apply ByteArray.ext
   simp[bZ,ByteArray.data_extract,List.drop_take]
  simp only[Sem.run_bind,Ts ht (va ay eG bj) (by have:=va ay h8 hb;rwa [<- dZ] at this) gx (show n<=(bZ l).size by omega) aE,he];rfl
def FE:V->Bool
 | .ptr ..=>true
 | .e9 _=>true
 | _=>false
theorem Lk {x:Operand} {v:V} (aa:o.op = .nilCheck x) (U:aI st.env x=some v) (hv:FE v=true):bw P G o st v:=
 hs fun F base w0 ρ a w ak ay=>by
  have h:=c0 ay U
  refine ⟨_,h,fun aE=>?_⟩
  unfold execOp;rw[aa];simp only[]
  cases v with
  | ptr=>obtain ⟨r,b,I,J,av⟩:=pv h;rw[av];rfl
  | e9=>obtain ⟨b,off,us,I,_⟩:=EW h;rw[I];rfl
  | _=>cases hv
section
variable {n0:Nat} {ops:List Oper} {rest:List Oper} {env:List (Nat×V)} {heap:List (Nat×Option aY)} {next ad:Nat} {Q:ba->Prop}
theorem xU {T cA:TypeId} {x y:Operand} {l m:List UInt8} {d:Nat} (aa:o.op = .binOp .eql T x y cA:=by rfl) (U:aI env x=some (.lit (.string (bZ l))):=by rfl) (ai:aI env y=some (.lit (.string (bZ m))):=by rfl) (aj:bW env ops o.guard=some true:=by rfl) (hd:o.dst=some d:=by rfl) (aL:Nat.blt d ad=true:=by rfl)
  (ht:l=m->a8 P n0 ops.toArray rest ⟨(d,.lit (.bool true)) :: env,heap,next,ad⟩ Q) (hf:¬ l=m->a8 P n0 ops.toArray rest ⟨(d,.lit (.bool false)) :: env,heap,next,ad⟩ Q):a8 P n0 ops.toArray (o :: rest) ⟨env,heap,next,ad⟩ Q:=by
 have h:=JX (P:=P) (G:=[]) (st:=⟨env,heap,next,ad⟩) aa U ai
 rw[decide_eq_decide.2 Bg] at h
 by_cases aw:l=m
 ·rw[decide_eq_true aw] at h;exact gS aj hd aL h (ht aw)
 ·rw[decide_eq_false aw] at h;exact gS aj hd aL h (hf aw)
theorem xV {T cA:TypeId} {x y:Operand} {l m:List UInt8} {d:Nat} (aa:o.op = .binOp .neq T x y cA:=by rfl) (U:aI env x=some (.lit (.string (bZ l))):=by rfl) (ai:aI env y=some (.lit (.string (bZ m))):=by rfl) (aj:bW env ops o.guard=some true:=by rfl) (hd:o.dst=some d:=by rfl) (aL:Nat.blt d ad=true:=by rfl)
  (ht:¬ l=m->a8 P n0 ops.toArray rest ⟨(d,.lit (.bool true)) :: env,heap,next,ad⟩ Q) (hf:l=m->a8 P n0 ops.toArray rest ⟨(d,.lit (.bool false)) :: env,heap,next,ad⟩ Q):a8 P n0 ops.toArray (o :: rest) ⟨env,heap,next,ad⟩ Q:=by
 have h:=JY (P:=P) (G:=[]) (st:=⟨env,heap,next,ad⟩) aa U ai
 rw[decide_eq_decide.2 (not_congr Bg)] at h
 by_cases aw:l=m
 ·rw[decide_eq_false (fun h=>h aw)] at h;exact gS aj hd aL h (hf aw)
 ·rw[decide_eq_true aw] at h;exact gS aj hd aL h (ht aw)
theorem xW {T cA:TypeId} {x y:Operand} {m n:Bool} {d:Nat} (aa:o.op = .binOp .eql T x y cA:=by rfl) (U:aI env x=some (.lit (.bool m)):=by rfl) (ai:aI env y=some (.lit (.bool n)):=by rfl) (aV:P.underlying T=some .bool:=by rfl) (aj:bW env ops o.guard=some true:=by rfl) (hd:o.dst=some d:=by rfl) (aL:Nat.blt d ad=true:=by rfl)
  (ht:m=n->a8 P n0 ops.toArray rest ⟨(d,.lit (.bool true)) :: env,heap,next,ad⟩ Q) (hf:¬ m=n->a8 P n0 ops.toArray rest ⟨(d,.lit (.bool false)) :: env,heap,next,ad⟩ Q):a8 P n0 ops.toArray (o :: rest) ⟨env,heap,next,ad⟩ Q:=by
 have h:=La (P:=P) (G:=[]) (st:=⟨env,heap,next,ad⟩) aa U ai aV
 by_cases aw:m=n
 ·rw[decide_eq_true aw] at h;exact gS aj hd aL h (ht aw)
 ·rw[decide_eq_false aw] at h;exact gS aj hd aL h (hf aw)
theorem xX (aj:bW env ops o.guard=some false:=by rfl) (hd:o.dst=none:=by rfl) (h:a8 P n0 ops.toArray rest ⟨env,heap,next,ad⟩ Q):a8 P n0 ops.toArray (o :: rest) ⟨env,heap,next,ad⟩ Q:=
 Ks aj (by rw[hd];rfl) (by rw[hd];exact h)
theorem r2 {f:FuncId} {xs:Array Operand} {ts:Array TypeId} {vs cc:List V} {p:Prop} {d:Nat} (hf:Fn P f cc (.lit (.bool (yes p)))) (aa:o.op = .call { callee:=.value (.func f),args:=xs,argTypes:=ts }:=by rfl) (aj:bW env ops o.guard=some true:=by rfl) (hd:o.dst=some d:=by rfl) (aL:Nat.blt d ad=true:=by rfl)
  (U : gw env xs.toList = some vs := by rfl) (hb : kF.k2 0 vs = true := by rfl) (hw : dI vs cc := by ((repeat' (first | exact dI.nil | refine dI.cons ?_ ?_ | exact cZ.refl _ | exact cZ.nil | refine cZ.agg ?_ | refine cZ.b0 ?_)); first | done | fail "args")) (ht : p -> a8 P n0 ops.toArray rest ⟨(d, .lit (.bool true)) :: env, heap, next, ad⟩ Q) (hff : ¬ p -> a8 P n0 ops.toArray rest ⟨(d, .lit (.bool false)) :: env, heap, next, ad⟩ Q) : a8 P n0 ops.toArray (o :: rest) ⟨env, heap, next, ad⟩ Q :=
 KQ hf aa aj hd aL U hb hw (fun h=>ht (uF.1 h)) (fun h=>hff (FD.1 h))
theorem xY {x:Operand} {v:V} {d:Nat} (aa:o.op = .nilCheck x:=by rfl) (U:aI env x=some v:=by rfl) (hv:FE v=true:=by rfl) (aj:bW env ops o.guard=some true:=by rfl) (hd:o.dst=some d:=by rfl) (aL:Nat.blt d ad=true:=by rfl)
  (h:a8 P n0 ops.toArray rest ⟨(d,v) :: env,heap,next,ad⟩ Q):a8 P n0 ops.toArray (o :: rest) ⟨env,heap,next,ad⟩ Q:=gS aj hd aL (Lk aa U hv) h
theorem s3 {T bR e:TypeId} {x:Operand} {v:V} {l:List UInt8} {d:Nat} (aa:o.op = .convert T bR x:=by rfl) (U:aI env x=some v:=by rfl) (hv:ha heap v=some (l.map aC):=by rfl) (aV:P.underlying T=some (.slice e):=by rfl) (he:P.underlying e=some (.int .u8):=by rfl) (h3:P.underlying bR=some .string:=by rfl)
  (aj:bW env ops o.guard=some true:=by rfl) (hd:o.dst=some d:=by rfl) (aL:Nat.blt d ad=true:=by rfl) (h:a8 P n0 ops.toArray rest ⟨(d,.lit (.string (bZ l))) :: env,heap,next,ad⟩ Q):a8 P n0 ops.toArray (o :: rest) ⟨env,heap,next,ad⟩ Q:=gS aj hd aL (Lc aa U hv aV he h3) h
theorem Tt {l:List UInt8}:∀ i,i<(l.map aC).length->(bH (l.map aC) i).length=1:=fun i hi=>by
 rw[List.length_map] at hi;rw[je aC hi];rfl
theorem FF {α:Type} [Inhabited α] {f:α->List V} {l:List α} {s:Nat} (h:∀ x,(f x).length=s):∀ i,i<(l.map f).length->(bH (l.map f) i).length=s:=fun i hi=>by
 rw[List.length_map] at hi;rw[je f hi];exact h _
theorem p5 {α:Type} [Inhabited α] {f:α->List V} {t e s d:Nat} {x:Operand} {bJ hi:Option Operand} {v:V} {l r:List α} {a b:Option Int} (m n:Nat) (bj:a.getD 0=(m:Int)) (hb:b.getD l.length=(n:Int)) (gx:m<=n) (hn:n<=l.length) (hr:(l.take n).drop m=r)
  (aa:o.op = .slice t x bJ hi none:=by rfl) (U:aI env x=some v:=by rfl) (hv:r0 heap v=some (l.map f):=by rfl) (eG:j3 env bJ=some a:=by rfl) (h8:j3 env hi=some b:=by rfl)
  (ht:P.underlying t=some (.slice e):=by rfl) (ap:dt P e=some s:=by rfl) (ij:∀ x,(f x).length=s:=by intro x;rfl)
  (aj:bW env ops o.guard=some true:=by rfl) (hd:o.dst=some d:=by rfl) (aL:Nat.blt d ad=true:=by rfl) (h:a8 P n0 ops.toArray rest ⟨(d,.ro (r.map f)) :: env,heap,next,ad⟩ Q):a8 P n0 ops.toArray (o :: rest) ⟨env,heap,next,ad⟩ Q:=by
 have e:((l.map f).take n).drop m=r.map f:=by rw[<- hr,List.map_drop,List.map_take]
 refine gS aj hd aL ?_ h
 rw[<- e]
 exact Lh (l:=l.map f) aa U hv eG h8 ht ap (FF ij) bj (by rw[List.length_map];exact hb) gx (by rw[List.length_map];exact hn)
theorem rc {t d:Nat} {x:Operand} {bJ hi:Option Operand} {l r:List UInt8} {a b:Option Int} (m n:Nat) (bj:a.getD 0=(m:Int)) (hb:b.getD l.length=(n:Int)) (gx:m<=n) (hn:n<=l.length) (hr:(l.take n).drop m=r)
  (aa:o.op = .slice t x bJ hi none:=by rfl) (U:aI env x=some (.lit (.string (bZ l))):=by rfl) (eG:j3 env bJ=some a:=by rfl) (h8:j3 env hi=some b:=by rfl) (ht:P.underlying t=some .string:=by rfl)
  (aj:bW env ops o.guard=some true:=by rfl) (hd:o.dst=some d:=by rfl) (aL:Nat.blt d ad=true:=by rfl) (h:a8 P n0 ops.toArray rest ⟨(d,.lit (.string (bZ r))) :: env,heap,next,ad⟩ Q):a8 P n0 ops.toArray (o :: rest) ⟨env,heap,next,ad⟩ Q:=by
 subst hr
 exact gS aj hd aL (Lj aa U eG h8 ht bj hb gx hn) h
end
section
variable {ad aA k bq:Nat} {ops:List Oper} {W:Nat->Nat->Bool} {rest:List Oper} {env:List (Nat×V)} {heap:List (Nat×Option aY)} {Q:ba->Prop}
theorem xZ {T cA:TypeId} {x y:Operand} {l m:List UInt8} {d:Nat} (aa:o.op = .binOp .eql T x y cA:=by rfl) (U:aI (bA (looks ops o) env) x=some (.lit (.string (bZ l))):=by rfl) (ai:aI (bA (looks ops o) env) y=some (.lit (.string (bZ m))):=by rfl) (aj:bW (bA (looks ops o) env) ops o.guard=some true:=by rfl) (hd:o.dst=some d:=by rfl) (aL:Nat.blt d ad=true:=by rfl) (ag:k+1=bq:=by(simp only[Nat.reduceAdd];rfl)) (hb:Nat.ble aA k=true:=by rfl)
  (ht:l=m->bk P ad aA ops W bq rest ((d,.lit (.bool true)) :: env) heap Q) (hf:¬ l=m->bk P ad aA ops W bq rest ((d,.lit (.bool false)) :: env) heap Q):bk P ad aA ops W k (o :: rest) env heap Q:=by
 have h:=fun N=>JX (P:=P) (G:=[]) (st:=⟨bA (looks ops o) env,[],N,ad⟩) aa U ai
 simp only[decide_eq_decide.2 (Bg (l:=l) (m:=m))] at h
 by_cases aw:l=m
 ·simp only[decide_eq_true aw] at h;exact h7 aj hd aL hb ag h (ht aw)
 ·simp only[decide_eq_false aw] at h;exact h7 aj hd aL hb ag h (hf aw)
theorem x0 {T cA:TypeId} {x y:Operand} {m n:Bool} {d:Nat} (aa:o.op = .binOp .eql T x y cA:=by rfl) (U:aI (bA (looks ops o) env) x=some (.lit (.bool m)):=by rfl) (ai:aI (bA (looks ops o) env) y=some (.lit (.bool n)):=by rfl) (aV:P.underlying T=some .bool:=by rfl) (aj:bW (bA (looks ops o) env) ops o.guard=some true:=by rfl) (hd:o.dst=some d:=by rfl) (aL:Nat.blt d ad=true:=by rfl) (ag:k+1=bq:=by(simp only[Nat.reduceAdd];rfl)) (hb:Nat.ble aA k=true:=by rfl)
  (ht:m=n->bk P ad aA ops W bq rest ((d,.lit (.bool true)) :: env) heap Q) (hf:¬ m=n->bk P ad aA ops W bq rest ((d,.lit (.bool false)) :: env) heap Q):bk P ad aA ops W k (o :: rest) env heap Q:=by
 have h:=fun N=>La (P:=P) (G:=[]) (st:=⟨bA (looks ops o) env,[],N,ad⟩) aa U ai aV
 by_cases aw:m=n
 ·simp only[decide_eq_true aw] at h;exact h7 aj hd aL hb ag h (ht aw)
 ·simp only[decide_eq_false aw] at h;exact h7 aj hd aL hb ag h (hf aw)
theorem r3 {f:FuncId} {xs:Array Operand} {ts:Array TypeId} {vs cc:List V} {p:Prop} {d:Nat} (hf:Fn P f cc (.lit (.bool (yes p)))) (aa:o.op = .call { callee:=.value (.func f),args:=xs,argTypes:=ts }:=by rfl) (aj:bW (bA (looks ops o) env) ops o.guard=some true:=by rfl) (hd:o.dst=some d:=by rfl) (aL:Nat.blt d ad=true:=by rfl)
  (U : gw (bA (looks ops o) env) xs.toList = some vs := by rfl) (iP : kF.k2 0 vs = true := by rfl) (hw : dI vs cc := by ((repeat' (first | exact dI.nil | refine dI.cons ?_ ?_ | exact cZ.refl _ | exact cZ.nil | refine cZ.agg ?_ | refine cZ.b0 ?_)); first | done | fail "args")) (ag : k + 1 = bq := by (simp only [Nat.reduceAdd]; rfl)) (hb : Nat.ble aA k = true := by rfl) (ht : p -> bk P ad aA ops W bq rest ((d, .lit (.bool true)) :: env) heap Q) (hff : ¬ p -> bk P ad aA ops W bq rest ((d, .lit (.bool false)) :: env) heap Q) : bk P ad aA ops W k (o :: rest) env heap Q :=
 K8 hf aa aj hd aL U iP hw ag hb (fun h=>ht (uF.1 h)) (fun h=>hff (FD.1 h))
theorem x1 {x:Operand} {v:V} {d:Nat} (aa:o.op = .nilCheck x:=by rfl) (U:aI (bA (looks ops o) env) x=some v:=by rfl) (hv:FE v=true:=by rfl) (aj:bW (bA (looks ops o) env) ops o.guard=some true:=by rfl) (hd:o.dst=some d:=by rfl) (aL:Nat.blt d ad=true:=by rfl) (ag:k+1=bq:=by(simp only[Nat.reduceAdd];rfl)) (hb:Nat.ble aA k=true:=by rfl)
  (h:bk P ad aA ops W bq rest ((d,v) :: env) heap Q):bk P ad aA ops W k (o :: rest) env heap Q:=h7 aj hd aL hb ag (fun N=>Lk aa U hv) h
theorem x2 {T bR e:TypeId} {x:Operand} {v:V} {l:List UInt8} {d:Nat} (aa:o.op = .convert T bR x:=by rfl) (U:aI (bA (looks ops o) env) x=some v:=by rfl) (hv:ha [] v=some (l.map aC):=by rfl) (aV:P.underlying T=some (.slice e):=by rfl) (he:P.underlying e=some (.int .u8):=by rfl) (h3:P.underlying bR=some .string:=by rfl)
  (aj:bW (bA (looks ops o) env) ops o.guard=some true:=by rfl) (hd:o.dst=some d:=by rfl) (aL:Nat.blt d ad=true:=by rfl) (ag:k+1=bq:=by(simp only[Nat.reduceAdd];rfl)) (hb:Nat.ble aA k=true:=by rfl) (h:bk P ad aA ops W bq rest ((d,.lit (.string (bZ l))) :: env) heap Q):bk P ad aA ops W k (o :: rest) env heap Q:=h7 aj hd aL hb ag (fun N=>Lc aa U hv aV he h3) h
theorem rb {α:Type} [Inhabited α] {f:α->List V} {t e s d:Nat} {x:Operand} {bJ hi:Option Operand} {v:V} {l r:List α} {a b:Option Int} (m n:Nat) (bj:a.getD 0=(m:Int)) (dl:b.getD l.length=(n:Int)) (gx:m<=n) (hn:n<=l.length) (hr:(l.take n).drop m=r)
  (aa:o.op = .slice t x bJ hi none:=by rfl) (U:aI (bA (looks ops o) env) x=some v:=by rfl) (hv:r0 [] v=some (l.map f):=by rfl) (eG:j3 (bA (looks ops o) env) bJ=some a:=by rfl) (h8:j3 (bA (looks ops o) env) hi=some b:=by rfl)
  (ht:P.underlying t=some (.slice e):=by rfl) (ap:dt P e=some s:=by rfl) (ij:∀ x,(f x).length=s:=by intro x;rfl)
  (aj:bW (bA (looks ops o) env) ops o.guard=some true:=by rfl) (hd:o.dst=some d:=by rfl) (aL:Nat.blt d ad=true:=by rfl) (ag:k+1=bq:=by(simp only[Nat.reduceAdd];rfl)) (hb:Nat.ble aA k=true:=by rfl) (h:bk P ad aA ops W bq rest ((d,.ro (r.map f)) :: env) heap Q):bk P ad aA ops W k (o :: rest) env heap Q:=by
 have e:((l.map f).take n).drop m=r.map f:=by rw[<- hr,List.map_drop,List.map_take]
 refine h7 aj hd aL hb ag (fun N=>?_) h
 rw[<- e]
 exact Lh (l:=l.map f) aa U hv eG h8 ht ap (FF ij) bj (by rw[List.length_map];exact dl) gx (by rw[List.length_map];exact hn)
end
end
section
variable {P:Program} {G:List Nat} {o:Oper} {st:ba} {n0:Nat}
def ob (s:Nat):Nat->List V->List (List V)
 | 0,_=>[]
 | n+1,cs=>cs.take s :: ob s n (cs.drop s)
def nI (z:List V):Nat->List V
 | 0=>[]
 | n+1=>z++nI z n
def r4 (P:Program) (e len:Nat) (bK:List (Nat×List V)):Option (List (List V)):=
 match dt P e,gR P e with
 | some s,some z=>bif Nat.beq z.length s && Nat.blt 0 s then(match oa (fun i=>some (i * s,s)) (nI z len) bK with
  | some cs=>some (ob s len cs)
  | none=>none) else none
 | _,_=>none
theorem FG (s:Nat):∀ (n:Nat) (cs:List V),(ob s n cs).length=n
 | 0,_=>rfl
 | n+1,cs=>by simp[ob,FG s n]
theorem FH (s:Nat):∀ (n:Nat) (cs:List V),cs.length=n * s -> ∀ i,i<n->(bH (ob s n cs) i).length=s /\ ∀ j,j<s->bx (bH (ob s n cs) i) j=bx cs (i * s+j)
 | 0,_,_,i,h=>by omega
 | n+1,cs,aq,i,hi=>by
  have hm:(n+1) * s=n * s+s:=Nat.succ_mul n s
  cases i with
  | zero=>
   have e:bH (ob s (n+1) cs) 0=cs.take s:=rfl
   rw[e]
   refine ⟨by simp;omega,fun j ah=>?_⟩
   unfold bx
   rw[List.getD_eq_getElem?_getD,List.getD_eq_getElem?_getD,List.getElem?_take,if_pos ah,Nat.zero_mul,Nat.zero_add]
  | succ i=>
   have e:bH (ob s (n+1) cs) (i+1)=bH (ob s n (cs.drop s)) i:=by simp[ob,bH]
   rw[e]
   obtain ⟨I,J⟩:=FH s n (cs.drop s) (by simp;omega) i (by omega)
   refine ⟨I,fun j ah=>?_⟩
   rw[J j ah,AI]
   congr 1
   rw[Nat.succ_mul];omega
theorem Tu {ρ:Nat->Option Value} {S:Nat->Prop} {w:World} {z:List V} {k4:Array Value} (h:rT ρ S w z k4) (af:0<z.length) (n:Nat):rT ρ S w (nI z n) ((Array.range (n * z.length)).map (k4[· % k4.size]!)):=by
 have hlen:∀ n,(nI z n).length=n * z.length:=by
  intro n
  induction n with
  | zero=>simp[nI]
  | succ n cf=>simp only[nI,List.length_append,cf];rw[Nat.succ_mul];omega
 have hc:∀ n j,j<n * z.length->bx (nI z n) j=bx z (j % z.length):=by
  intro n
  induction n with
  | zero=>intro j ah;omega
  | succ n cf=>
   intro j ah
   rw[Nat.succ_mul] at ah
   simp only[nI]
   unfold bx
   rw[List.getD_eq_getElem?_getD,List.getElem?_append]
   split
   ·rename_i Ll;rw[Nat.mod_eq_of_lt Ll,List.getD_eq_getElem?_getD]
   ·rename_i Ll
    have:=cf (j - z.length) (by omega)
    unfold bx at this
    rw[<- List.getD_eq_getElem?_getD,this,Nat.mod_eq_sub_mod (by omega:j >= z.length)]
 refine ⟨by simp[hlen],fun j ah=>?_⟩
 rw[hlen] at ah
 have hm:j % z.length<z.length:=Nat.mod_lt _ af
 have e:((Array.range (n * z.length)).map (k4[· % k4.size]!)).getD j undef=k4.getD (j % z.length) undef:=by
  rw[Array.getD_eq_getD_getElem?,Array.getElem?_map,Array.getElem?_range]
  simp only[ah,if_true,Option.map_some,Option.getD_some]
  rw[h.1,Array.getD_eq_getD_getElem?,getElem!_pos k4 _ (by rw[h.1];exact hm),Array.getElem?_eq_getElem (by rw[h.1];exact hm)];rfl
 rw[hc n j ah,e]
 exact h.2 _ hm
theorem Lm {e len:Nat} {bK:List (Nat×List V)} {l:List (List V)} (h:r4 P e len bK=some l):∃ s z cs,dt P e=some s/\gR P e=some z/\z.length=s/\0<s/\oa (fun i=>some (i * s,s)) (nI z len) bK=some cs/\l=ob s len cs:=by
 unfold r4 at h
 split at h
 ·rename_i s z ap bh
  cases hb:(Nat.beq z.length s && Nat.blt 0 s) with
  | false=>rw[hb] at h;cases h
  | true=>
   rw[hb] at h
   simp only[cond_true] at h
   simp only[Bool.and_eq_true] at hb
   split at h
   ·rename_i cs iW
    injection h with h
    exact⟨s,z,cs,ap,bh,Nat.eq_of_beq_eq_true hb.1,Nat.le_of_ble_eq_true hb.2,iW,h.symm⟩
   ·cases h
 ·cases h
theorem Ln {t e len s:Nat} {parts:Array (Nat×Operand)} {bK:List (Nat×List V)} {z cs:List V} {F:Nat->Prop} {base:Nat->Prop} {ρ:Nat->Option Value} {w0 w:World} {a:Act}
  (ak:en F base ρ st.heap st.next w0 w) (ay:eR ρ (bC F ρ st.heap) w st.ad st.env a) (ht:P.underlying t=some (.slice e)) (ap:dt P e=some s) (bh:gR P e=some z) (vb:z.length=s) (af:0<s) (hlen:0<len) (jJ:len * s<=2 ^ 24) (aw:lU st.env parts.toList=some bK) (hf:oa (fun i=>some (i * s,s)) (nI z len) bK=some cs) :
  ∃ us:Array Value,(Instr.buildSlice t len (parts.map fun (i,x)=>(i,a.eval x))).run P w = .ok (.slice (some ⟨w.heap.size,0,none⟩) len len) (w.alloc (.cells us e))/\rT ρ (bC F ρ st.heap) w cs us/\cs.length=len * s:=by
 obtain ⟨pA,rfl,lP,uP⟩:=AM bh
 obtain ⟨aH,aN⟩:=Fi ay (fun id x h=>(ak.sup id x h).2) aw
 have Tv:rT ρ (bC F ρ st.heap) w (pA.cells.toList.map .lit) pA.cells:=E1 lP
 have mS:=Tu Tv (by omega) len
 rw[vb] at mS
 obtain ⟨oS,g1,g2⟩:=Fg (place:=fun i=>some (i * s,s)) bK _ _ _ cs mS aH aN hf
 unfold dt at ap
 cases hi:P.info? e with
 | none=>rw[hi] at ap;cases ap
 | some qD=>
  rw[hi] at ap
  simp only[Option.map_some,Option.some.injEq] at ap
  have Tw:qD.zero=some pA:=by
   have av:=uP w
   simp[zeroValue,typeInfo,hi,Sem.run_bind,Sem.run_pure,program,Sem.run] at av
   cases Bi:qD.zero with
   | none=>rw[Bi] at av;cases av
   | some XB=>rw[Bi] at av;injection av with av _;rw[av]
  subst ap
  have hm:0<len * qD.size:=Nat.mul_pos hlen af
  have Tx:∀ n,(nI (pA.cells.toList.map V.lit) n).length=n * qD.size:=by
   intro n
   induction n with
   | zero=>simp[nI]
   | succ n cf=>simp only[nI,List.length_append,cf,vb];rw[Nat.succ_mul];omega
  have jC:∀ (pl:Nat->Option (Nat×Nat)) (bK:List (Nat×List V)) (c r:List V),oa pl c bK=some r->r.length=c.length:=by
   intro pl bK
   induction bK with
   | nil=>intro c r h;simp only[oa,Option.some.injEq] at h;rw[h]
   | cons p bK cf=>
    intro c r h
    obtain ⟨i,v⟩:=p
    simp only[oa] at h
    split at h
    ·cases h
    ·rename_i off size _
     cases hb:(Nat.beq v.length size && Nat.ble (off+v.length) c.length) with
     | false=>rw[hb] at h;cases h
     | true=>rw[hb] at h;rw[cf _ _ h,rL]
  exact⟨oS,run_buildSlice w t e len _ oS qD pA ht hi Tw (by omega) (by omega) (by rw[Array.toList_map];exact g1),g2,by rw[jC _ _ _ _ hf,Tx]⟩
theorem Lo {l:List (List V)} (h:l.all (fun cs=>cs.all n8)=true) {i j:Nat} (hi:i<l.length) (ah:j<(bH l i).length):n8 (bx (bH l i) j)=true:=by
 rw[List.all_eq_true] at h
 have I:=h (bH l i) (by unfold bH;rw[List.getD_eq_getElem?_getD,List.getElem?_eq_getElem hi];exact List.getElem_mem hi)
 rw[List.all_eq_true] at I
 refine I _ ?_
 unfold bx;rw[List.getD_eq_getElem?_getD,List.getElem?_eq_getElem ah];exact List.getElem_mem ah
theorem Ty {w:World} {us:Array Value} {e:TypeId} {i:Nat} (h:i<us.size):(w.alloc (.cells us e)).cell? ⟨w.heap.size,i,none⟩=some (us.getD i undef):=by
 have:=xa w us e
 unfold World.cell?
 simp only[this,Option.isSome_none,Bool.false_eq_true,if_false]
 rw[Array.getElem?_eq_getElem h]
 simp[h]
theorem Lp {t e len d:Nat} {parts:Array (Nat×Operand)} {bK:List (Nat×List V)} {l:List (List V)} (aa:o.op = .buildSlice t len parts) (hd:o.dst=some d) (aL:Nat.blt d st.ad=true) (ht:P.underlying t=some (.slice e)) (aw:lU st.env parts.toList=some bK) (aq:r4 P e len bK=some l) (mW:l.all (fun cs=>cs.all n8)=true) (hlen:Nat.blt 0 len=true) (jJ:Nat.ble (len * (dt P e).getD 0) 16777216=true) :
  GStep P n0 o st { st with env:=(d,.ro l) :: st.env }:=fun F base w0 ρ a w ak ay=>by
 obtain ⟨s,z,cs,ap,bh,vb,af,hf,rfl⟩:=Lm aq
 rw[ap] at jJ
 obtain ⟨us,kE,hc,gK⟩:=Ln ak ay ht ap bh vb af (Nat.le_of_ble_eq_true hlen) (Nat.le_of_ble_eq_true jJ) aw hf
 refine my (u:=.slice (some ⟨w.heap.size,0,none⟩) len len) (aE:=w.alloc (.cells us e)) ?_ ?_
 ·unfold execOp;rw[aa]
  simp only[Sem.run_bind,kE];rfl
 ·rw[hd]
  have hb:=rK w (.cells us e)
  have eV:dX (bC F ρ st.heap) w (w.alloc (.cells us e)):=fun b _ cj=>hb.block b cj
  refine ⟨ρ,ak.grow hb,(ay.mono eV (fun b h _=>h) (fun _ _ h=>h)).put (Nat.le_of_ble_eq_true aL) (.pure ?_),fun _ _ h=>h,fun _ _=>rfl⟩
  have hr:=FH s len cs gK
  have oc:=FG s len cs
  have Tz:len<=16777216:=Nat.le_trans (Nat.le_mul_of_pos_right len af) (Nat.le_of_ble_eq_true jJ)
  have:=fP.ro (S:=bC F ρ st.heap) (w:=w.alloc (.cells us e)) (ob s len cs) (some ⟨w.heap.size,0,none⟩) len s w.heap.size 0 (fun i j=>us.getD (i * s+j) undef) (by rw[oc];exact Nat.le_refl _) pf af (fun _=>⟨rfl,Fa ak (Nat.le_refl _)⟩)
   (fun i hi=>(hr i (by rw[oc] at hi;exact hi)).1)
   (fun i j hi ah=>by
    rw[oc] at hi
    have I:(i+1) * s<=len * s:=Nat.mul_le_mul_right s hi
    have J:(i+1) * s=i * s+s:=Nat.succ_mul i s
    rw[Nat.zero_add]
    exact Ty (by rw[hc.1,gK];omega))
   (fun i j hi ah=>by
    have FI:=hi
    rw[oc] at hi
    have I:(i+1) * s<=len * s:=Nat.mul_le_mul_right s hi
    have J:(i+1) * s=i * s+s:=Nat.succ_mul i s
    have sr:=Lo mW FI (by rw[(hr i hi).1];exact ah)
    rw[(hr i hi).2 j ah] at sr ⊢
    exact E2 ((hc.2 (i * s+j) (by rw[gK];omega)).1.mono eV (fun b h _=>h) (fun _ _ h=>h)) sr)
  rwa [oc] at this
theorem TA {k t e len d:Nat} {parts:Array (Nat×Operand)} {bK:List (Nat×List V)} {l:List (List V)} (aa:o.op = .buildSlice t len parts) (hd:o.dst=some d) (aL:Nat.blt d st.ad=true) (ht:P.underlying t=some (.slice e)) (aw:lU st.env parts.toList=some bK) (aq:r4 P e len bK=some l) (mW:l.all (fun cs=>cs.all n8)=true) (hlen:Nat.blt 0 len=true) (jJ:Nat.ble (len * (dt P e).getD 0) 16777216=true) :
  ko P k o st (st.newAt k d (.own k) (.row e ((dt P e).getD 0) l)):=fun F base w0 ρ a w ak ay eH ag=>by
 obtain ⟨s,z,cs,ap,bh,vb,af,hf,rfl⟩:=Lm aq
 rw[ap] at jJ
 obtain ⟨us,kE,hc,gK⟩:=Ln ak ay ht ap bh vb af (Nat.le_of_ble_eq_true hlen) (Nat.le_of_ble_eq_true jJ) aw hf
 refine my (u:=.slice (some ⟨w.heap.size,0,none⟩) len len) (aE:=w.alloc (.cells us e)) ?_ ?_
 ·unfold execOp;rw[aa]
  simp only[Sem.run_bind,kE];rfl
 ·rw[hd]
  have hr:=FH s len cs gK
  have oc:=FG s len cs
  have Tz:len<=16777216:=Nat.le_trans (Nat.le_mul_of_pos_right len af) (Nat.le_of_ble_eq_true jJ)
  refine rJ ak ay eH ag (rK _ _) (fun _ b hb=>by simp only[dY,Option.some.injEq] at hb;omega) (Nat.le_of_ble_eq_true aL) rfl (fun S hS _ eV=>?_) (fun S=>.own (hx _ _ _))
  rw[ap]
  refine ⟨af,_,us.toList,hx _ _ _,⟨⟨by rw[oc,Array.length_toList,hc.1,gK];rfl,.inr ⟨w.heap.size,len,us,by rw[oc],Nat.zero_le _,xa _ _ _,by rw[oc];exact Nat.le_refl _,by unfold maxLen;omega,by rw[hc.1,gK];rfl,?_⟩⟩,fun b hb=>?_⟩,fun i hi=>(hr i (by rw[oc] at hi;exact hi)).1,fun i j hi ah=>?_⟩
  ·rw[oc,List.take_of_length_le]
   rw[Array.length_toList,hc.1,gK];exact Nat.le_refl _
  ·simp only[dY,Option.some.injEq] at hb;exact ak.fC b (by omega)
  ·have FI:=hi
   rw[oc] at hi
   have I:(i+1) * s<=len * s:=Nat.mul_le_mul_right s hi
   have J:(i+1) * s=i * s+s:=Nat.succ_mul i s
   have ah:j<s:=ah
   have sr:=Lo mW FI (by rw[(hr i hi).1];exact ah)
   rw[(hr i hi).2 j ah] at sr
   have Lq:=hc.2 (i * s+j) (by rw[gK];omega)
   refine ⟨us.getD (i * s+j) undef,?_,?_,Lq.2⟩
   ·show us.toList[i * s+j]? = _
    rw[Array.getElem?_toList,Array.getElem?_eq_getElem (by rw[hc.1,gK];omega),Array.getD_eq_getD_getElem?,Array.getElem?_eq_getElem (by rw[hc.1,gK];omega)];rfl
   ·rw[(hr i hi).2 j ah]
    exact(E2 Lq.1 sr).mono eV hS
def tr (P:Program) (xs k5:List V):List Field->Option Prop
 | []=>some True
 | f :: dA=>match P.underlying f.type,xs[f.offset]?,k5[f.offset]?,tr P xs k5 dA with
  | some (.int _),some (.lit (.int k m)),some (.lit (.int bq n)),some p=>bif decide (k=bq) then some (m=n/\p) else none
  | some .bool,some (.lit (.bool m)),some (.lit (.bool n)),some p=>some (m=n/\p)
  | some .string,some (.lit (.string m)),some (.lit (.string n)),some p=>some (m=n/\p)
  | _,_,_,_=>none
theorem Bj {ρ:Nat->Option Value} {S:Nat->Prop} {w:World} {xs k5:List V} {us vs:Array Value} (U:us.size=xs.length /\ ∀ j,j<xs.length->cC ρ S w (bx xs j) (us.getD j undef)) (ai:vs.size=k5.length /\ ∀ j,j<k5.length->cC ρ S w (bx k5 j) (vs.getD j undef)) (d:Nat) :
  ∀ (dA : List Field) (p : Prop), tr P xs k5 dA = some p -> dA.all (fun f => !(f.name == "_")) = true -> ∃ b : Bool, (b = true ↔ p) /\ ∀ aE, (Op.eqFields (d + 1) us vs dA).run P aE = .ok b aE
 | [],p,h,_=>by
  simp only[tr,Option.some.injEq] at h
  subst h
  exact⟨true,by simp,fun aE=>by simp[Op.eqFields,Sem.run_pure]⟩
 | f :: dA,p,h,hn=>by
  simp only[List.all_cons,Bool.and_eq_true] at hn
  have c9 : f.name ≠ "_" := by
   have:=hn.1
   simpa using this
  have get:∀ {k4:List V} {ws:Array Value} {u:Value},(ws.size=k4.length /\ ∀ j,j<k4.length->cC ρ S w (bx k4 j) (ws.getD j undef))->k4[f.offset]? = some (.lit u)->ws[f.offset]? = some u:=by
   intro k4 ws u bh h
   have cj:=(List.getElem?_eq_some_iff.1 h).1
   have:=bh.2 _ cj
   have e:bx k4 f.offset = .lit u:=by unfold bx;rw[List.getD_eq_getElem?_getD,h];rfl
   rw[e] at this
   have:=ff this
   rw[Array.getD_eq_getD_getElem?,Array.getElem?_eq_getElem (by omega)] at this
   rw[Array.getElem?_eq_getElem (by omega)]
   simpa using this
  have vc:∀ {k4:Array Value} {u:Value} {aE:World},jH P f.type=some false->k4[f.offset]? = some u->(part f.type k4 f.offset).run P aE = .ok u aE:=by
   intro k4 u aE bj bh
   simp[part,w9 bj,Sem.run_bind,bh,Sem.run_pure]
  simp only[tr] at h
  split at h
  ·rename_i fx k m bq n q hu I J hq
   cases ag:decide (k=bq) with
   | false=>rw[ag] at h;cases h
   | true=>
    rw[ag] at h
    simp only[cond_true,Option.some.injEq] at h
    have ag:=of_decide_eq_true ag
    subst ag;subst h
    obtain ⟨b,hb,hr⟩:=Bj U ai d dA q hq hn.2
    have bj:jH P f.type=some false:=by unfold jH;rw[hu]
    refine ⟨decide (m=n) && b,by rw[Bool.and_eq_true,decide_eq_true_eq,hb],fun aE=>?_⟩
    have he:=run_equalIn_int (P:=P) aE d f.type k fx m n hu
    rw[JW] at he
    simp only[Op.eqFields,if_pos c9,Sem.run_bind,vc bj (get U I),vc bj (get ai J),Result.andThen_ok,he]
    by_cases gx:m=n
    ·simp[gx,hr]
    ·simp[gx,Sem.run_pure]
  ·rename_i m n q hu I J hq
   injection h with h;subst h
   obtain ⟨b,hb,hr⟩:=Bj U ai d dA q hq hn.2
   have bj:jH P f.type=some false:=by unfold jH;rw[hu]
   refine ⟨decide (m=n) && b,by rw[Bool.and_eq_true,decide_eq_true_eq,hb],fun aE=>?_⟩
   have he:=run_equalIn_bool (P:=P) aE d f.type m n hu
   have e:(m == n)=decide (m=n):=by cases m <;> cases n <;> rfl
   rw[e] at he
   simp only[Op.eqFields,if_pos c9,Sem.run_bind,vc bj (get U I),vc bj (get ai J),Result.andThen_ok,he]
   by_cases gx:m=n
   ·simp[gx,hr]
   ·simp[gx,Sem.run_pure]
  ·rename_i m n q hu I J hq
   injection h with h;subst h
   obtain ⟨b,hb,hr⟩:=Bj U ai d dA q hq hn.2
   have bj:jH P f.type=some false:=by unfold jH;rw[hu]
   refine ⟨decide (m=n) && b,by rw[Bool.and_eq_true,decide_eq_true_eq,hb],fun aE=>?_⟩
   have he:=run_equalIn_string (P:=P) aE d f.type m n hu
   rw[ET] at he
   simp only[Op.eqFields,if_pos c9,Sem.run_bind,vc bj (get U I),vc bj (get ai J),Result.andThen_ok,he]
   by_cases gx:m=n
   ·simp[gx,hr]
   ·simp[gx,Sem.run_pure]
  ·cases h
theorem x3 {ρ:Nat->Option Value} {S:Nat->Prop} {w:World} {cs:List V} {u:Value} (h:cC ρ S w (.agg cs) u):∃ us,u = .agg us/\us.size=cs.length /\ ∀ j,j<cs.length->cC ρ S w (bx cs j) (us.getD j undef):=by
 cases h with
 | pure h=>cases h
 | agg hn h=>exact⟨_,rfl,hn,h⟩
theorem Lr {T cA:TypeId} {x y:Operand} {xs k5:List V} {dA:Array Field} {p:Prop} (aa:o.op = .binOp .eql T x y cA) (U:aI st.env x=some (.agg xs)) (ai:aI st.env y=some (.agg k5)) (aV:P.underlying T=some (.struct dA)) (aw:tr P xs k5 dA.toList=some p)
  (hn : dA.toList.all (fun f => !(f.name == "_")) = true) (ap : P.stoodInHeld T = false) (hm : P.eqGuardType P.depth T = false) : (p -> bw P G o st (.lit (.bool true))) /\ (¬ p -> bw P G o st (.lit (.bool false))) := by
 have hf:P.fieldsOf T=dA:=by unfold Program.fieldsOf;rw[aV]
 have key:∀ Bk:Bool,(Bk=true ↔ p)->bw P G o st (.lit (.bool Bk)):=fun Bk gP=>hs fun F base w0 ρ a w ak ay=>by
  refine ⟨_,.pure (.lit _ rfl),fun aE=>?_⟩
  obtain ⟨us,aH,aN,bS⟩:=x3 (c0 ay U)
  obtain ⟨vs,f1,f2,f3⟩:=x3 (c0 ay ai)
  obtain ⟨b,hb,hr⟩:=Bj (P:=P) ⟨aN,bS⟩ ⟨f2,f3⟩ 9998 dA.toList p aw hn
  have FJ:b=Bk:=by rw[Bool.eq_iff_iff,hb,gP]
  unfold execOp;rw[aa];simp only[];rw[aH,f1]
  have I:=run_eqGuard_agg (P:=P) aE .eql T x y us vs hm
  have J:=run_eql_struct (P:=P) aE T us vs
  rw[run_equalIn_agg aE 9999 T us vs (by rw[hf];exact aV) ap,hf,hr] at J
  simp only[Sem.run_bind,I,Result.andThen_ok,J,FJ];rfl
 exact⟨fun h=>key true (by simp[h]),fun h=>key false (by simp[h])⟩
section
variable {ops:List Oper} {rest:List Oper} {env:List (Nat×V)} {heap:List (Nat×Option aY)} {next ad:Nat} {Q:ba->Prop}
inductive ls:List (List V)->List (List V)->Prop
 | nil:ls [] []
 | cons {c d:List V} {cs ds:List (List V)} (h:Norm c d) (ap:ls cs ds):ls (c :: cs) (d :: ds)
theorem ls.eq {cs ds:List (List V)} (h:ls cs ds):cs=ds:=by
 induction h with
 | nil=>rfl
 | cons h ap cf=>rw[h.eq,cf]
theorem x4 {T cA:TypeId} {x y:Operand} {k:IntKind} {m n:Int} {d:Nat} (aa:o.op = .binOp .quo T x y cA:=by rfl) (U:aI env x=some (.lit (.int k m)):=by rfl) (ai:aI env y=some (.lit (.int k n)):=by rfl) (hm:0<=m:=by omega) (hn:0<n:=by omega) (hw:k.wrap (m / n)=m / n:=by first|(rw[IntKind.wrap_i64];omega)|(rw[IntKind.wrap_u64];omega)|(rw[IntKind.wrap_u8];omega)) (aj:bW env ops o.guard=some true:=by rfl) (hd:o.dst=some d:=by rfl) (aL:Nat.blt d ad=true:=by rfl)
  (h:a8 P n0 ops.toArray rest ⟨(d,.lit (.int k (m / n))) :: env,heap,next,ad⟩ Q):a8 P n0 ops.toArray (o :: rest) ⟨env,heap,next,ad⟩ Q:=by
 have:=AE (P:=P) (G:=[]) (st:=⟨env,heap,next,ad⟩) aa U ai (by omega)
 rw[Int.tdiv_eq_ediv_of_nonneg hm,hw] at this
 exact gS aj hd aL this h
theorem x5 {T cA:TypeId} {x y:Operand} {k:IntKind} {m n:Int} {d:Nat} (aa:o.op = .binOp .rem T x y cA:=by rfl) (U:aI env x=some (.lit (.int k m)):=by rfl) (ai:aI env y=some (.lit (.int k n)):=by rfl) (hm:0<=m:=by omega) (hn:0<n:=by omega) (aj:bW env ops o.guard=some true:=by rfl) (hd:o.dst=some d:=by rfl) (aL:Nat.blt d ad=true:=by rfl)
  (h:a8 P n0 ops.toArray rest ⟨(d,.lit (.int k (m % n))) :: env,heap,next,ad⟩ Q):a8 P n0 ops.toArray (o :: rest) ⟨env,heap,next,ad⟩ Q:=by
 have:=AF (P:=P) (G:=[]) (st:=⟨env,heap,next,ad⟩) aa U ai (by omega)
 rw[Int.tmod_eq_emod_of_nonneg hm] at this
 exact gS aj hd aL this h
theorem x6 {T cA:TypeId} {x y:Operand} {xs k5:List V} {dA:Array Field} {p:Prop} {d:Nat} (aa:o.op = .binOp .eql T x y cA:=by rfl) (U:aI env x=some (.agg xs):=by rfl) (ai:aI env y=some (.agg k5):=by rfl) (aV:P.underlying T=some (.struct dA):=by rfl) (aw:tr P xs k5 dA.toList=some p:=by rfl) (aj:bW env ops o.guard=some true:=by rfl) (hd:o.dst=some d:=by rfl) (aL:Nat.blt d ad=true:=by rfl)
  (hn : dA.toList.all (fun f => !(f.name == "_")) = true := by kernel_rfl) (ap : P.stoodInHeld T = false := by kernel_rfl) (hm : P.eqGuardType P.depth T = false := by kernel_rfl)
  (ht:p->a8 P n0 ops.toArray rest ⟨(d,.lit (.bool true)) :: env,heap,next,ad⟩ Q) (hf:¬ p->a8 P n0 ops.toArray rest ⟨(d,.lit (.bool false)) :: env,heap,next,ad⟩ Q):a8 P n0 ops.toArray (o :: rest) ⟨env,heap,next,ad⟩ Q:=by
 have h:=Lr (P:=P) (G:=[]) (st:=⟨env,heap,next,ad⟩) aa U ai aV aw hn ap hm
 by_cases aw:p
 ·exact gS aj hd aL (h.1 aw) (ht aw)
 ·exact gS aj hd aL (h.2 aw) (hf aw)
theorem ep {t e len d:Nat} {parts:Array (Nat×Operand)} {bK:List (Nat×List V)} {l fl:List (List V)} (aa:o.op = .buildSlice t len parts:=by rfl) (ht:P.underlying t=some (.slice e):=by rfl) (aw:lU env parts.toList=some bK:=by rfl) (aq:r4 P e len bK=some l:=by rfl) (eI:ls l fl:=by repeat'(first|exact ls.nil|apply ls.cons|exact Norm.nil|apply Norm.cons)) (mW:fl.all (fun cs=>cs.all n8)=true:=by rfl) (aj:bW env ops o.guard=some true:=by rfl) (hd:o.dst=some d:=by rfl) (aL:Nat.blt d ad=true:=by rfl) (hlen:Nat.blt 0 len=true:=by rfl) (jJ:Nat.ble (len * (dt P e).getD 0) 16777216=true:=by rfl)
  (h:a8 P n0 ops.toArray rest ⟨(d,.ro fl) :: env,heap,next,ad⟩ Q):a8 P n0 ops.toArray (o :: rest) ⟨env,heap,next,ad⟩ Q:=by
 have e:=eI.eq
 subst e
 exact jI aj (Lp (st:=⟨env,heap,next,ad⟩) aa hd aL ht aw aq mW hlen jJ) h
theorem Js {t e len d s:Nat} {parts:Array (Nat×Operand)} {bK:List (Nat×List V)} {l fl:List (List V)} (aa:o.op = .buildSlice t len parts:=by rfl) (ht:P.underlying t=some (.slice e):=by rfl) (ap:(dt P e).getD 0=s:=by rfl) (aw:lU env parts.toList=some bK:=by rfl) (aq:r4 P e len bK=some l:=by rfl) (eI:ls l fl:=by repeat'(first|exact ls.nil|apply ls.cons|exact Norm.nil|apply Norm.cons)) (mW:fl.all (fun cs=>cs.all n8)=true:=by rfl) (aj:bW env ops o.guard=some true:=by rfl) (hd:o.dst=some d:=by rfl) (aL:Nat.blt d ad=true:=by rfl) (hn0:Nat.ble n0 next=true:=by rfl) (hlen:Nat.blt 0 len=true:=by rfl) (jJ:Nat.ble (len * (dt P e).getD 0) 16777216=true:=by rfl)
  (h:a8 P n0 ops.toArray rest ⟨(d,.own next) :: env,(next,some (.row e s fl)) :: heap,next+1,ad⟩ Q):a8 P n0 ops.toArray (o :: rest) ⟨env,heap,next,ad⟩ Q:=by
 have e:=eI.eq
 subst e
 subst ap
 exact jI aj (n5 (Nat.le_of_ble_eq_true hn0) (TA (st:={ env:=env,heap:=heap,next:=next+1,ad:=ad }) aa hd aL ht aw aq mW hlen jJ)) h
end
end
section
variable {P:Program} {G:List Nat} {o:Oper} {st:ba} {n0:Nat}
theorem Ls {T bR e:TypeId} {x:Operand} {l:List UInt8} {d:Nat} (aa:o.op = .convert T bR x) (hd:o.dst=some d) (aL:Nat.blt d st.ad=true) (U:aI st.env x=some (.lit (.string (bZ l)))) (aV:P.underlying T=some .string) (h3:P.underlying bR=some (.slice e)) (he:P.underlying e=some (.int .u8)) (h63:l.length<=140737488355328) :
  GStep P n0 o st { st with env:=(d,.ro (l.map aC)) :: st.env }:=fun F base w0 ρ a w ak ay=>by
 have kE:=run_bytes_of_string (P:=P) w T bR e (bZ l) aV h3 he
 have dZ:(bZ l).size=l.length:=tp l
 generalize Bh:grownCap w (bZ l).size 0 e=cap at kE
 have TB:l.length<=cap:=by rw[<- Bh,<- dZ];exact grownCap_ge w _ 0 e
 have J3:cap<=maxLen:=by rw[<- Bh];exact grownCap_le_maxLen w _ 0 e pf
 rw[dZ] at kE
 have jY:∀ i,i<l.length->(bytesRow (bZ l) cap).getD i undef = .int .u8 ((l.getD i default).toNat:Int):=fun i hi=>by
  unfold bytesRow
  rw[Array.getD_eq_getD_getElem?,Array.getElem?_append_left (by simp[bZ,hi]),Array.getElem?_map]
  have:(bZ l).data[i]? = some (l.getD i default):=by
   simp only[bZ,List.getElem?_toArray,List.getElem?_eq_getElem hi,List.getD_eq_getElem?_getD,Option.getD_some]
  rw[this];rfl
 have lx:l.length<=(bytesRow (bZ l) cap).size:=by unfold bytesRow;simp[bZ]
 generalize bytesRow (bZ l) cap=cN at kE jY lx
 generalize (cN.size,cN.size+1)=iY at kE
 have hb:Below w.heap.size w (w.drew.alloc (.cells cN e iY)):=by
  have:=rK w.drew (.cells cN e iY)
  exact⟨this.os,this.tape,this.output,this.size,this.block⟩
 have od:(w.drew.alloc (.cells cN e iY)).heap[w.heap.size]? = some (.cells cN e iY):=heap_alloc_new w.drew _
 have eV:dX (bC F ρ st.heap) w (w.drew.alloc (.cells cN e iY)):=fun b _ cj=>hb.block b cj
 refine my (u:=.slice (some ⟨w.heap.size,0,none⟩) l.length cap) (aE:=w.drew.alloc (.cells cN e iY)) ?_ ?_
 ·unfold execOp;rw[aa];simp only[];rw[ff (c0 ay U)]
  simp only[Sem.run_bind,kE];rfl
 ·rw[hd]
  refine ⟨ρ,ak.grow hb,(ay.mono eV (fun b h _=>h) (fun _ _ h=>h)).put (Nat.le_of_ble_eq_true aL) (.pure ?_),fun _ _ h=>h,fun _ _=>rfl⟩
  have:=fP.ro (S:=bC F ρ st.heap) (w:=w.drew.alloc (.cells cN e iY)) (l.map aC) (some ⟨w.heap.size,0,none⟩) cap 1 w.heap.size 0 (fun i j=>.int .u8 ((l.getD i default).toNat:Int)) (by rw[List.length_map];exact TB) J3 (by omega) (fun _=>⟨rfl,Fa ak (Nat.le_refl _)⟩) Tt
   (fun i j hi ah=>by
    rw[List.length_map] at hi
    have me:j=0:=by omega
    subst me
    rw[Nat.mul_one,Nat.add_zero,Nat.zero_add]
    unfold World.cell?
    simp only[od,Option.isSome_none,Bool.false_eq_true,if_false]
    have:=jY i hi
    rw[Array.getD_eq_getD_getElem?,Array.getElem?_eq_getElem (by omega)] at this
    rw[Array.getElem?_eq_getElem (by omega)]
    simpa using this)
   (fun i j hi ah=>by
    rw[List.length_map] at hi
    have me:j=0:=by omega
    subst me
    rw[je aC hi]
    exact .lit _ rfl)
  rwa [List.length_map] at this
theorem TC {k:Nat} {t e d n dL:Nat} {x y:Operand} {Bl r1:IntKind} {m1 m2:Int} {z:Value} (aa:o.op = .makeSlice t x y) (hd:o.dst=some d) (aL:Nat.blt d st.ad=true) (U:aI st.env x=some (.lit (.int Bl m1))) (ai:aI st.env y=some (.lit (.int r1 m2))) (I:m1=(n:Int)) (J:m2=(n:Int))
  (ht:P.underlying t=some (.slice e)) (ap:dt P e=some 1) (hb:j1 P e=some dL) (bh:gR P e=some [.lit z]) (fF:dL * n<=281474976710656) (h63:n<=9223372036854775807):ko P k o st (st.newAt k d (.own k) (.row e 1 (List.replicate n [.lit z]))):=fun F base w0 ρ a w ak ay eH ag=>by
 subst I J
 obtain ⟨i,pA,hi,kG,dZ,gP,uX⟩:=Fm ap hb ⟨_,bh,rfl⟩
 obtain ⟨Bm,aH,aN,bS⟩:=AM bh
 have mS:Bm = pA:=by
  have av:=bS w
  simp[zeroValue,typeInfo,hi,kG,Sem.run_bind,Sem.run_pure,program,Sem.run] at av
  exact av.symm
 subst mS
 have Lt:Bm.cells = #[z]:=by
  apply Array.toList_inj.1
  generalize Bm.cells.toList=L at aH
  match L,aH with
  | [u],aH=>injection aH with aH;injection aH with aH;rw[aH]
 have n7:z.oneCell' = true:=by
  rw[Lt] at aN;simpa using aN
 have dl:(i.bytes:Int) * (n:Int)<=281474976710656:=by
  rw[gP]
  have h:((dL * n:Nat):Int)<=281474976710656:=by omega
  rwa [Int.natCast_mul] at h
 have hr:=run_make (P:=P) w t e i Bm ht hi kG Bl r1 n n (by omega) (Int.le_refl _) dl (by omega)
 rw[Int.toNat_natCast,dZ,Nat.mul_one,Lt] at hr
 have TD:∀ j,j<n->(madeCells #[z] n).getD j undef=z:=fun j ah=>by
  have TE:j % 1=0:=Nat.mod_one j
  simp[madeCells,ah,TE]
 refine my (u:=.slice (some ⟨w.heap.size,0,none⟩) n n) (aE:=w.alloc (.cells (madeCells #[z] n) e)) ?_ ?_
 ·unfold execOp;rw[aa];simp only[];rw[ff (c0 ay U),ff (c0 ay ai)]
  simp only[Sem.run_bind,hr];rfl
 ·rw[hd]
  refine rJ ak ay eH ag (rK _ _) (fun _ b hb=>by simp only[dY,Option.some.injEq] at hb;omega) (Nat.le_of_ble_eq_true aL) rfl (fun S hS _ eV=>?_) (fun S=>.own (hx _ _ _))
  have oN:=size_madeCells #[z] n
  have he:∀ i,i<n->bH (List.replicate n [V.lit z]) i=[V.lit z]:=fun i hi=>by
   unfold bH;rw[List.getD_eq_getElem?_getD,List.getElem?_replicate,if_pos hi];rfl
  refine ⟨by omega,_,(madeCells #[z] n).toList,hx _ _ _,⟨⟨by rw[List.length_replicate,Array.length_toList,oN];omega,.inr ⟨w.heap.size,n,madeCells #[z] n,by rw[List.length_replicate],Nat.zero_le _,xa _ _ _,by rw[List.length_replicate];exact Nat.le_refl _,by unfold maxLen;omega,by rw[oN];omega,?_⟩⟩,fun b hb=>?_⟩,fun i hi=>?_,fun i j hi ah=>?_⟩
  ·rw[List.length_replicate,List.take_of_length_le]
   rw[Array.length_toList,oN];omega
  ·simp only[dY,Option.some.injEq] at hb;exact ak.fC b (by omega)
  ·rw[List.length_replicate] at hi;rw[he i hi];rfl
  ·rw[List.length_replicate] at hi
   have me:j=0:=by omega
   subst me
   rw[he i hi]
   refine ⟨z,?_,.lit z n7,n7⟩
   have:=TD i hi
   rw[Array.getD_eq_getD_getElem?,Array.getElem?_eq_getElem (by rw[oN];exact hi)] at this
   rw[Nat.mul_one,Nat.add_zero,Array.getElem?_toList,Array.getElem?_eq_getElem (by rw[oN];exact hi)]
   simpa using this
section
variable {ops:List Oper} {rest:List Oper} {env:List (Nat×V)} {heap:List (Nat×Option aY)} {next ad:Nat} {Q:ba->Prop}
theorem x7 {T bR e:TypeId} {x:Operand} {l:List UInt8} {d:Nat} (aa:o.op = .convert T bR x:=by rfl) (U:aI env x=some (.lit (.string (bZ l))):=by rfl) (aV:P.underlying T=some .string:=by rfl) (h3:P.underlying bR=some (.slice e):=by rfl) (he:P.underlying e=some (.int .u8):=by rfl) (h63:l.length<=140737488355328:=by omega) (aj:bW env ops o.guard=some true:=by rfl) (hd:o.dst=some d:=by rfl) (aL:Nat.blt d ad=true:=by rfl)
  (h:a8 P n0 ops.toArray rest ⟨(d,.ro (l.map aC)) :: env,heap,next,ad⟩ Q):a8 P n0 ops.toArray (o :: rest) ⟨env,heap,next,ad⟩ Q:=
 jI aj (Ls (st:=⟨env,heap,next,ad⟩) aa hd aL U aV h3 he h63) h
theorem GM {t e d dL:Nat} {x y:Operand} {Bl r1:IntKind} {m1 m2:Int} {z:Value} (n:Nat) (I:m1=(n:Int)) (J:m2=(n:Int)) (fF:dL * n<=281474976710656) (h63:n<=9223372036854775807) (aa:o.op = .makeSlice t x y:=by rfl) (U:aI env x=some (.lit (.int Bl m1)):=by rfl) (ai:aI env y=some (.lit (.int r1 m2)):=by rfl)
  (ht:P.underlying t=some (.slice e):=by rfl) (ap:dt P e=some 1:=by rfl) (hb:j1 P e=some dL:=by rfl) (bh:gR P e=some [.lit z]:=by rfl) (aj:bW env ops o.guard=some true:=by rfl) (hd:o.dst=some d:=by rfl) (aL:Nat.blt d ad=true:=by rfl) (hn0:Nat.ble n0 next=true:=by rfl)
  (h:a8 P n0 ops.toArray rest ⟨(d,.own next) :: env,(next,some (.row e 1 (List.replicate n [.lit z]))) :: heap,next+1,ad⟩ Q):a8 P n0 ops.toArray (o :: rest) ⟨env,heap,next,ad⟩ Q:=
 jI aj (n5 (Nat.le_of_ble_eq_true hn0) (TC (st:={ env:=env,heap:=heap,next:=next+1,ad:=ad }) aa hd aL U ai I J ht ap hb bh fF h63)) h
theorem mG {T:TypeId} {x y:Operand} {id i j e s:Nat} {l r:List (List V)} {vs:List V} {v:V} (hi:i<l.length) (hr:l.set i (setAt j vs (bH l i))=r) (aa:o.op = .store T x y:=by rfl) (hd:o.dst=none:=by rfl) (U:aI env x=some (.ptr id i s j):=by rfl) (hh:bd heap id=some (.row e s l):=by rfl) (ai:aI env y=some v:=by rfl)
  (hf:flat v=some vs:=by rfl) (aw:vs.all n8=true:=by rfl) (aV:dt P T=some vs.length:=by rfl) (aq:Nat.ble (j+vs.length) s=true:=by rfl) (aj:bW env ops o.guard=some true:=by rfl)
  (h:a8 P n0 ops.toArray rest ⟨env,(id,some (.row e s r)) :: heap,next,ad⟩ Q):a8 P n0 ops.toArray (o :: rest) ⟨env,heap,next,ad⟩ Q:=by
 subst hr
 exact jI aj (Kl (st:=⟨env,heap,next,ad⟩) aa hd U hh hi ai hf aw aV aq) h
theorem cx {x y:Operand} {t e s dL id d:Nat} {l m r:List (List V)} {v:V} (hr:l++m=r) (hm:∀ i,i<m.length->(bH m i).length=s) (fF:(l.length+m.length) * dL<=140737488355328) (h63:l.length+m.length<=9223372036854775807)
  (aa:o.op = .call { callee:=.builtin .append,args:=#[x,y],argTypes:=#[t,t] }:=by rfl) (U:aI env x=some (.own id):=by rfl) (hh:bd heap id=some (.row e s l):=by rfl) (ai:aI env y=some v:=by rfl) (hv:ha heap v=some m:=by rfl)
  (ht:P.underlying t=some (.slice e):=by rfl) (ap:dt P e=some s:=by rfl) (hb:j1 P e=some dL:=by rfl) (bh:∃ z,gR P e=some z/\z.length=s:=by exact⟨_,rfl,rfl⟩) (aj:bW env ops o.guard=some true:=by rfl) (hd:o.dst=some d:=by rfl) (aL:Nat.blt d ad=true:=by rfl) (hn0:Nat.ble n0 next=true:=by rfl)
  (h:a8 P n0 ops.toArray rest ⟨(d,.own next) :: env,(next,some (.row e s r)) :: (id,none) :: heap,next+1,ad⟩ Q):a8 P n0 ops.toArray (o :: rest) ⟨env,heap,next,ad⟩ Q:=by
 subst hr
 exact jI aj (SQ (st:=⟨env,heap,next,ad⟩) aa hd aL hn0 U hh ai hv ht ap hb bh hm fF h63) h
theorem TF {id e s:Nat} {r:List (List V)} {l:List Oper} (hh:bd heap id=some (.row e s r):=by rfl) (h:a8 P n0 ops.toArray l ⟨env,(id,some (.gb r)) :: heap,next,ad⟩ Q):a8 P n0 ops.toArray l ⟨env,heap,next,ad⟩ Q:=
 y3 (Fq (st:=⟨env,heap,next,ad⟩) hh) h
end
end
section
variable {P:Program} {o:Oper} {st:ba} {n0:Nat}
theorem Lu {st bG:ba} (J:bG.next=st.next) (av:bG.ad=st.ad) (hc:∀ t v,cG bG.env t=some v->cG st.env t=some v) (hh:∀ t v,bd bG.heap t=some v->bd st.heap t=some v):cu P n0 st bG:=
 fun F base w0 ρ a w ak ay=>by
  have ap:∀ b,bC F ρ st.heap b->bC F ρ bG.heap b:=fun b h=>⟨h.1,fun id B u aB aa hu=>h.2 id B u (hh id B aB) aa hu⟩
  refine ⟨ρ,⟨⟨ak.below,ak.fC,by rw[J];exact ak.sup,fun id dQ B bT u ev b aB cJ=>ak.inj id dQ B bT u ev b (hh _ _ aB) (hh _ _ cJ),fun id B aB=>?_⟩,ak.ch⟩,⟨by rw[av];exact ay.size,ay.defers,fun t v hv=>?_⟩,fun _ _=>rfl⟩
  ·exact(ak.dB id B (hh id B aB)).mono (dX.refl _ _) (fun b h _=>ap b h) (fun _ _ h=>h) (fun _ _ _ _ _ _=>rfl)
  ·exact(ay.slot t v (hc t v hv)).mono (dX.refl _ _) (fun b h _=>ap b h) (fun _ _ h=>h)
theorem Lv {t id:Nat} {l:List (List V)} {st:ba} (ht:cG st.env t=some (.own id)) (hh:bd st.heap id=some (.gb l)):cu P n0 st { st with env:=(t,.ro l) :: st.env }:=
 fun F base w0 ρ a w ak ay=>by
  refine ⟨ρ,ak,⟨ay.size,ay.defers,fun x v U=>?_⟩,fun _ _=>rfl⟩
  simp only[cG] at U
  cases hb:Nat.beq t x with
  | true=>
   rw[hb] at U
   simp only[cond_true,Option.some.injEq] at U
   subst U
   have:=Nat.eq_of_beq_eq_true hb
   subst this
   obtain ⟨v,I,J,_⟩:=ak.dB _ _ hh
   rw[mR (ay.slot t _ ht)] at I;injection I with I
   rw[I];exact .pure J
  | false=>
   rw[hb] at U
   exact ay.slot x v U
theorem Lw {k:Nat} {vd FK:ba} (h:ko P k o st vd) (aq:cu P vd.next vd FK) (hn:FK.next=vd.next) (XC:vd.next=st.next):ko P k o st FK:=fun F base w0 ρ a w ak ay eH ag=>by
 refine rH ?_ (h F base w0 ρ a w ak ay eH ag)
 rintro gQ aE ⟨bm,I,J,av,bl⟩
 obtain ⟨lQ,aT,a1,bz⟩:=aq F base w0 bm gQ aE I J
 have Lx:∀ {r:Nat->Option Value} {n id:Nat},(∀ id u,r id=some u->id<n/\u.oneCell' = true)->n<=id->r id=none:=fun ap hid=>by
  rename_i r n id
  cases hr:r id with
  | none=>rfl
  | some u=>have:=(ap id u hr).1;omega
 have Ly:∀ id,lQ id=bm id:=fun id=>by
  by_cases hid:id<vd.next
  ·exact bz id hid
  ·rw[Lx aT.sup (by rw[hn];omega),Lx I.sup (by omega)]
 exact⟨lQ,aT,a1,fun id u hu=>by rw[Ly];exact av id u hu,fun id hid=>by rw[Ly];exact bl id hid⟩
theorem Lz {k:Nat} {bG:ba} (h:bd st.heap k=none->ko P k o st bG):ko P k o st bG:=fun F base w0 ρ a w ak ay eH ag=>by
 cases aB:bd st.heap k with
 | none=>exact h aB F base w0 ρ a w ak ay eH ag
 | some B=>
  obtain ⟨u,hu⟩:=ak.oM aB
  rw[eH] at hu;cases hu
theorem LA {k:Nat} {x y:Operand} {t e s dL id d:Nat} {l m:List (List V)} {v:V} (aa:o.op = .call { callee:=.builtin .append,args:=#[x,y],argTypes:=#[t,t] }) (hd:o.dst=some d) (aL:Nat.blt d st.ad=true)
  (U:aI st.env x=some (.own id)) (hh:bd st.heap id=some (.row e s l)) (ai:aI st.env y=some v) (hv:ha st.heap v=some m)
  (ht:P.underlying t=some (.slice e)) (ap:dt P e=some s) (hb:j1 P e=some dL) (bh:∃ z,gR P e=some z/\z.length=s)
  (hm:∀ i,i<m.length->(bH m i).length=s) (fF:(l.length+m.length) * dL<=140737488355328) (h63:l.length+m.length<=9223372036854775807) :
  ko P k o st { env:=(d,.ro (l++m)) :: st.env,heap:=(id,none) :: st.heap,next:=st.next,ad:=st.ad }:=by
 refine Lz (fun wC=>?_)
 refine Lw (Fo aa hd aL U hh ai hv ht ap hb bh hm fF h63) ?_ rfl rfl
 have I:cu P st.next { env:=(d,.own k) :: st.env,heap:=(k,some (.row e s (l++m))) :: (id,none) :: st.heap,next:=st.next,ad:=st.ad } _:=Fq (id:=k) (e:=e) (s:=s) (l:=l++m) (by simp[bd])
 refine I.trans ?_
 have J:cu P st.next { env:=(d,.own k) :: st.env,heap:=(k,some (.gb (l++m))) :: (k,some (.row e s (l++m))) :: (id,none) :: st.heap,next:=st.next,ad:=st.ad } _:=Lv (t:=d) (id:=k) (l:=l++m) (by simp[cG]) (by simp[bd])
 refine J.trans ?_
 refine Lu rfl rfl (fun t v hv=>?_) (fun j B aB=>?_)
 ·simp only[cG] at hv ⊢
  cases hb:Nat.beq d t with
  | true=>rw[hb] at hv;exact hv
  | false=>rw[hb] at hv;exact hv
 ·rw[ea] at aB
  split at aB
  ·cases aB
  ·rename_i lV
   have c9:k≠j:=fun e=>by rw[<- e,wC] at aB;cases aB
   show bd ((k,some (aY.gb (l++m))) :: (k,some (aY.row e s (l++m))) :: (id,none) :: st.heap) j=_
   rw[ea,if_neg c9,ea,if_neg c9,ea,if_neg lV]
   exact aB
theorem FL {k:Nat} {x y:Operand} {t e s dL d:Nat} {m:List (List V)} {v:V} (aa:o.op = .call { callee:=.builtin .append,args:=#[x,y],argTypes:=#[t,t] }) (hd:o.dst=some d) (aL:Nat.blt d st.ad=true)
  (U:aI st.env x=some (.lit (.slice none 0 0))) (ai:aI st.env y=some v) (hv:ha st.heap v=some m)
  (ht:P.underlying t=some (.slice e)) (ap:dt P e=some s) (af:Nat.blt 0 s=true) (hb:j1 P e=some dL) (bh:∃ z,gR P e=some z/\z.length=s)
  (hm:∀ i,i<m.length->(bH m i).length=s) (fF:m.length * dL<=140737488355328) (h63:m.length<=9223372036854775807) :
  ko P k o st (st.newAt k d (.own k) (.row e s m)):=fun F base w0 ρ a w ak ay eH ag=>by
 obtain ⟨i,z,hi,kG,dZ,gP,uX⟩:=Fm ap hb bh
 have af:=Nat.le_of_ble_eq_true af
 have pC:=ff (c0 ay U)
 obtain ⟨A,c,news,hu,lJ,b1,hrel⟩:=Fl ak.toHRel0 (c0 ay ai) hv hm af
 have n7:=KL af lJ hrel
 obtain ⟨cX,aE,hr,lr,aj,iZ⟩:=KK (P:=P) (ty:=o.type) ht hi kG dZ gP uX af (World.ownsRow_nil w 0 e s) (c:=c) lJ b1 n7 pf (by rw[Nat.zero_add];exact fF) (Nat.zero_le _)
 rw[Nat.zero_add,List.nil_append] at lr
 have aB:Below w.heap.size w aE:=⟨aj.os,aj.tape,aj.output,aj.size,fun j ah=>aj.block j ah (by simp[Value.ownBlock])⟩
 have od:∀ b,dY cX = some b->w.heap.size<=b:=fun b hb=>iZ.elim (fun h=>by rw[h] at hb;simp[dY] at hb) (fun h=>h b hb)
 have Fp:cX.oneCell' = true:=by rcases lr.2 with⟨rfl,_⟩ | ⟨_,_,_,rfl,_⟩ <;> rfl
 refine my (u:=cX) (aE:=aE) ?_ ?_
 ·unfold execOp;rw[aa]
  simp only[resolve,invoke,builtin,Sem.run_bind,Sem.run_pure,Result.andThen_ok,List.map_toArray,List.map_cons,List.map_nil,hu,pC,hr]
 ·rw[hd]
  refine rJ ak ay eH ag aB (fun _ b hb=>od b hb) (Nat.le_of_ble_eq_true aL) Fp (fun S hS _ eV=>?_) (fun S=>.own (hx _ _ _))
  refine ⟨af,cX,news,hx _ _ _,⟨lr,fun b hb=>ak.fC b (od b hb)⟩,hm,fun i j hi ah=>?_⟩
  obtain ⟨u,g1,g2⟩:=hrel i j hi ah
  exact⟨u,g1,g2.mono eV hS,g2.one⟩
theorem LB {k:Nat} {x y:Operand} {t e s dL d:Nat} {m:List (List V)} {v:V} (aa:o.op = .call { callee:=.builtin .append,args:=#[x,y],argTypes:=#[t,t] }) (hd:o.dst=some d) (aL:Nat.blt d st.ad=true)
  (U:aI st.env x=some (.lit (.slice none 0 0))) (ai:aI st.env y=some v) (hv:ha st.heap v=some m)
  (ht:P.underlying t=some (.slice e)) (ap:dt P e=some s) (af:Nat.blt 0 s=true) (hb:j1 P e=some dL) (bh:∃ z,gR P e=some z/\z.length=s)
  (hm:∀ i,i<m.length->(bH m i).length=s) (fF:m.length * dL<=140737488355328) (h63:m.length<=9223372036854775807) :
  ko P k o st { env:=(d,.ro m) :: st.env,heap:=st.heap,next:=st.next,ad:=st.ad }:=by
 refine Lz (fun wC=>?_)
 refine Lw (FL aa hd aL U ai hv ht ap af hb bh hm fF h63) ?_ rfl rfl
 have I:cu P st.next { env:=(d,.own k) :: st.env,heap:=(k,some (.row e s m)) :: st.heap,next:=st.next,ad:=st.ad } _:=Fq (id:=k) (e:=e) (s:=s) (l:=m) (by simp[bd])
 refine I.trans ?_
 have J:cu P st.next { env:=(d,.own k) :: st.env,heap:=(k,some (.gb m)) :: (k,some (.row e s m)) :: st.heap,next:=st.next,ad:=st.ad } _:=Lv (t:=d) (id:=k) (l:=m) (by simp[cG]) (by simp[bd])
 refine J.trans ?_
 refine Lu rfl rfl (fun t v hv=>?_) (fun j B aB=>?_)
 ·simp only[cG] at hv ⊢
  cases hb:Nat.beq d t with
  | true=>rw[hb] at hv;exact hv
  | false=>rw[hb] at hv;exact hv
 ·have c9:k≠j:=fun e=>by rw[<- e,wC] at aB;cases aB
  show bd ((k,some (aY.gb m)) :: (k,some (aY.row e s m)) :: st.heap) j=_
  rw[ea,if_neg c9,ea,if_neg c9]
  exact aB
theorem TG {t e s:Nat} (ht:P.underlying t=some (.slice e)) (ap:dt P e=some s) (w:World):(Instr.buildSlice t 0 #[]).run P w = .ok (.slice (some ⟨w.heap.size,0,none⟩) 0 0) (w.alloc (.cells #[] e)):=by
 simp only[Instr.buildSlice,Sem.run_bind,run_underlying ht,Result.andThen_ok,qx ap,Nat.zero_mul]
 simp[Instr.fill,newRow,Sem.run_bind,Sem.run_pure,show Array.range 0 = #[] from rfl]
theorem LC {k t e s d:Nat} (aa:o.op = .buildSlice t 0 #[]) (hd:o.dst=some d) (aL:Nat.blt d st.ad=true) (ht:P.underlying t=some (.slice e)) (ap:dt P e=some s) (af:Nat.blt 0 s=true) :
  ko P k o st (st.newAt k d (.own k) (.row e s [])):=fun F base w0 ρ a w ak ay eH ag=>by
 refine my (u:=.slice (some ⟨w.heap.size,0,none⟩) 0 0) (aE:=w.alloc (.cells #[] e)) ?_ ?_
 ·unfold execOp;rw[aa]
  have:=TG ht ap w
  simp only[List.map_toArray,List.map_nil,Sem.run_bind,this];rfl
 ·rw[hd]
  refine rJ ak ay eH ag (rK _ _) (fun _ b hb=>by simp only[dY,Option.some.injEq] at hb;omega) (Nat.le_of_ble_eq_true aL) rfl (fun S hS _ eV=>?_) (fun S=>.own (hx _ _ _))
  refine ⟨Nat.le_of_ble_eq_true af,_,[],hx _ _ _,⟨⟨by simp,.inr ⟨w.heap.size,0,#[],rfl,Nat.zero_le _,xa _ _ _,Nat.le_refl _,by unfold maxLen;omega,by simp,by simp⟩⟩,fun b hb=>?_⟩,fun i hi=>by simp at hi,fun i j hi=>by simp at hi⟩
  simp only[dY,Option.some.injEq] at hb;exact ak.fC b (by omega)
section
variable {ops:List Oper} {rest:List Oper} {env:List (Nat×V)} {heap:List (Nat×Option aY)} {next ad:Nat} {Q:ba->Prop}
theorem kO {x y:Operand} {t e s dL id d:Nat} {l m r:List (List V)} {v:V} (hr:l++m=r) (hm:∀ i,i<m.length->(bH m i).length=s) (fF:(l.length+m.length) * dL<=140737488355328) (h63:l.length+m.length<=9223372036854775807)
  (aa:o.op = .call { callee:=.builtin .append,args:=#[x,y],argTypes:=#[t,t] }:=by rfl) (U:aI env x=some (.own id):=by rfl) (hh:bd heap id=some (.row e s l):=by rfl) (ai:aI env y=some v:=by rfl) (hv:ha heap v=some m:=by rfl)
  (ht:P.underlying t=some (.slice e):=by rfl) (ap:dt P e=some s:=by rfl) (hb:j1 P e=some dL:=by rfl) (bh:∃ z,gR P e=some z/\z.length=s:=by exact⟨_,rfl,rfl⟩) (aj:bW env ops o.guard=some true:=by rfl) (hd:o.dst=some d:=by rfl) (aL:Nat.blt d ad=true:=by rfl) (hn0:Nat.ble n0 next=true:=by rfl)
  (h:a8 P n0 ops.toArray rest ⟨(d,.ro r) :: env,(id,none) :: heap,next+1,ad⟩ Q):a8 P n0 ops.toArray (o :: rest) ⟨env,heap,next,ad⟩ Q:=by
 subst hr
 exact jI aj (n5 (Nat.le_of_ble_eq_true hn0) (LA (st:={ env:=env,heap:=heap,next:=next+1,ad:=ad }) aa hd aL U hh ai hv ht ap hb bh hm fF h63)) h
theorem TH {x y:Operand} {t e s dL d:Nat} {m:List (List V)} {v:V} (hm:∀ i,i<m.length->(bH m i).length=s) (fF:m.length * dL<=140737488355328) (h63:m.length<=9223372036854775807)
  (aa:o.op = .call { callee:=.builtin .append,args:=#[x,y],argTypes:=#[t,t] }:=by rfl) (U:aI env x=some (.lit (.slice none 0 0)):=by rfl) (ai:aI env y=some v:=by rfl) (hv:ha heap v=some m:=by rfl)
  (ht:P.underlying t=some (.slice e):=by rfl) (ap:dt P e=some s:=by rfl) (hb:j1 P e=some dL:=by rfl) (bh:∃ z,gR P e=some z/\z.length=s:=by exact⟨_,rfl,rfl⟩) (af:Nat.blt 0 s=true:=by rfl) (aj:bW env ops o.guard=some true:=by rfl) (hd:o.dst=some d:=by rfl) (aL:Nat.blt d ad=true:=by rfl) (hn0:Nat.ble n0 next=true:=by rfl)
  (h:a8 P n0 ops.toArray rest ⟨(d,.own next) :: env,(next,some (.row e s m)) :: heap,next+1,ad⟩ Q):a8 P n0 ops.toArray (o :: rest) ⟨env,heap,next,ad⟩ Q:=
 jI aj (n5 (Nat.le_of_ble_eq_true hn0) (FL (st:={ env:=env,heap:=heap,next:=next+1,ad:=ad }) aa hd aL U ai hv ht ap af hb bh hm fF h63)) h
theorem TI {x y:Operand} {t e s dL d:Nat} {m:List (List V)} {v:V} (hm:∀ i,i<m.length->(bH m i).length=s) (fF:m.length * dL<=140737488355328) (h63:m.length<=9223372036854775807)
  (aa:o.op = .call { callee:=.builtin .append,args:=#[x,y],argTypes:=#[t,t] }:=by rfl) (U:aI env x=some (.lit (.slice none 0 0)):=by rfl) (ai:aI env y=some v:=by rfl) (hv:ha heap v=some m:=by rfl)
  (ht:P.underlying t=some (.slice e):=by rfl) (ap:dt P e=some s:=by rfl) (hb:j1 P e=some dL:=by rfl) (bh:∃ z,gR P e=some z/\z.length=s:=by exact⟨_,rfl,rfl⟩) (af:Nat.blt 0 s=true:=by rfl) (aj:bW env ops o.guard=some true:=by rfl) (hd:o.dst=some d:=by rfl) (aL:Nat.blt d ad=true:=by rfl) (hn0:Nat.ble n0 next=true:=by rfl)
  (h:a8 P n0 ops.toArray rest ⟨(d,.ro m) :: env,heap,next+1,ad⟩ Q):a8 P n0 ops.toArray (o :: rest) ⟨env,heap,next,ad⟩ Q:=
 jI aj (n5 (Nat.le_of_ble_eq_true hn0) (LB (st:={ env:=env,heap:=heap,next:=next+1,ad:=ad }) aa hd aL U ai hv ht ap af hb bh hm fF h63)) h
end
section
variable {ad aA k bq:Nat} {ops:List Oper} {W:Nat->Nat->Bool} {rest:List Oper} {env:List (Nat×V)} {heap:List (Nat×Option aY)} {Q:ba->Prop}
theorem Bn {E heap:List (Nat×Option aY)} (h:u7 E heap) {v:V} {m:List (List V)} (hv:ha E v=some m):ha heap v=some m:=by
 cases v with
 | own id=>
  simp only[ha] at hv ⊢
  cases aB:bd E id with
  | none=>rw[aB] at hv;cases hv
  | some B=>rw[h id B aB];rw[aB] at hv;exact hv
 | lit u=>
  cases u with
  | slice A n c=>cases A <;> cases n <;> exact hv
  | _=>exact hv
 | _=>exact hv
theorem tt {Hn H:List (Nat×Option aY)} {v:V} {d:Nat} (aj:bW (bA (looks ops o) env) ops o.guard=some true) (hd:o.dst=some d) (ag:k+1=bq) (hb:Nat.ble aA k=true)
  (FB:∀ id B,bd Hn id=some B->kp ops W aA (k - aA) id=true/\bd heap id=some B) (ak:∀ id,kI H id=true->id=k\/(W (k - aA) id=true/\A6 o.op=true/\kp ops W aA (k - aA) id=true))
  (hq:∀ N gm cS,to (bA (looks ops o) env) gm -> u7 Hn cS -> ko P k o ⟨gm,cS,N,ad⟩ ⟨(d,v) :: gm,H++cS,N,ad⟩)
  (h:bk P ad aA ops W bq rest ((d,v) :: env) (H++heap) Q):bk P ad aA ops W k (o :: rest) env heap Q:=by
 subst ag
 refine nH (s:=⟨v,H⟩) (fun N I J=>⟨bA (looks ops o) env,Hn,fun t x h=>mV h,FB,fun id h=>?_,?_⟩) ?_ hb
 ·rw[show aA+(k - aA)=k by omega];exact ak id h
 ·rw[show aA+(k - aA)=k by omega]
  refine FA aj J (fun gm cS ay xE=>?_)
  rw[hd]
  exact hq N gm cS ay xE
 ·rw[hd];exact h
theorem LD {id:Nat} {B:aY} {i:Nat} (hv:kp ops W aA i id=true) (hh:bd heap id=some B):∀ dQ bT,bd [(id,some B)] dQ = some bT -> kp ops W aA i dQ = true/\bd heap dQ = some bT:=by
 intro dQ bT eO
 rw[ea] at eO
 split at eO
 ·rename_i e;subst e;injection eO with eO;subst eO;exact⟨hv,hh⟩
 ·cases eO
theorem TJ {x y:Operand} {t e s dL d:Nat} {m:List (List V)} {v:V} (hm:∀ i,i<m.length->(bH m i).length=s) (fF:m.length * dL<=140737488355328) (h63:m.length<=9223372036854775807)
  (aa:o.op = .call { callee:=.builtin .append,args:=#[x,y],argTypes:=#[t,t] }:=by rfl) (U:aI (bA (looks ops o) env) x=some (.lit (.slice none 0 0)):=by rfl) (ai:aI (bA (looks ops o) env) y=some v:=by rfl) (hv:ha [] v=some m:=by rfl)
  (ht:P.underlying t=some (.slice e):=by rfl) (ap:dt P e=some s:=by rfl) (hb:j1 P e=some dL:=by rfl) (bh:∃ z,gR P e=some z/\z.length=s:=by exact⟨_,rfl,rfl⟩) (af:Nat.blt 0 s=true:=by rfl) (aj:bW (bA (looks ops o) env) ops o.guard=some true:=by rfl) (hd:o.dst=some d:=by rfl) (aL:Nat.blt d ad=true:=by rfl) (ag:k+1=bq:=by(simp only[Nat.reduceAdd];rfl)) (dl:Nat.ble aA k=true:=by rfl)
  (h:bk P ad aA ops W bq rest ((d,.own k) :: env) ((k,some (.row e s m)) :: heap) Q):bk P ad aA ops W k (o :: rest) env heap Q:=
 tt (Hn:=[]) (H:=[(k,some (.row e s m))]) aj hd ag dl (fun id B h=>by cases h) (fun id h=>.inl (rZ h)) (fun N gm cS ay ak=>FL (st:=⟨gm,cS,N,ad⟩) aa hd aL (lW ay U) (lW ay ai) (Bn ak hv) ht ap af hb bh hm fF h63) h
theorem TK {x y:Operand} {t e s dL d:Nat} {m:List (List V)} {v:V} (hm:∀ i,i<m.length->(bH m i).length=s) (fF:m.length * dL<=140737488355328) (h63:m.length<=9223372036854775807)
  (aa:o.op = .call { callee:=.builtin .append,args:=#[x,y],argTypes:=#[t,t] }:=by rfl) (U:aI (bA (looks ops o) env) x=some (.lit (.slice none 0 0)):=by rfl) (ai:aI (bA (looks ops o) env) y=some v:=by rfl) (hv:ha [] v=some m:=by rfl)
  (ht:P.underlying t=some (.slice e):=by rfl) (ap:dt P e=some s:=by rfl) (hb:j1 P e=some dL:=by rfl) (bh:∃ z,gR P e=some z/\z.length=s:=by exact⟨_,rfl,rfl⟩) (af:Nat.blt 0 s=true:=by rfl) (aj:bW (bA (looks ops o) env) ops o.guard=some true:=by rfl) (hd:o.dst=some d:=by rfl) (aL:Nat.blt d ad=true:=by rfl) (ag:k+1=bq:=by(simp only[Nat.reduceAdd];rfl)) (dl:Nat.ble aA k=true:=by rfl)
  (h:bk P ad aA ops W bq rest ((d,.ro m) :: env) heap Q):bk P ad aA ops W k (o :: rest) env heap Q:=
 tt (Hn:=[]) (H:=[]) aj hd ag dl (fun id B h=>by cases h) (fun id h=>(rY h).elim) (fun N gm cS ay ak=>LB (st:=⟨gm,cS,N,ad⟩) aa hd aL (lW ay U) (lW ay ai) (Bn ak hv) ht ap af hb bh hm fF h63) h
theorem eA {t e s d:Nat} (aa:o.op = .buildSlice t 0 #[]:=by rfl) (ht:P.underlying t=some (.slice e):=by rfl) (ap:dt P e=some s:=by rfl) (af:Nat.blt 0 s=true:=by rfl) (aj:bW (bA (looks ops o) env) ops o.guard=some true:=by rfl) (hd:o.dst=some d:=by rfl) (aL:Nat.blt d ad=true:=by rfl) (ag:k+1=bq:=by(simp only[Nat.reduceAdd];rfl)) (dl:Nat.ble aA k=true:=by rfl)
  (h:bk P ad aA ops W bq rest ((d,.own k) :: env) ((k,some (.row e s [])) :: heap) Q):bk P ad aA ops W k (o :: rest) env heap Q:=
 tt (Hn:=[]) (H:=[(k,some (.row e s []))]) aj hd ag dl (fun id B h=>by cases h) (fun id h=>.inl (rZ h)) (fun N gm cS ay ak=>LC (st:=⟨gm,cS,N,ad⟩) aa hd aL ht ap af) h
theorem LF {E env:List (Nat×V)} (h:to E env):∀ {xs:List (Nat×Operand)} {bK:List (Nat×List V)},lU E xs=some bK->lU env xs=some bK
 | [],bK,U=>U
 | (i,x) :: xs,bK,U=>by
  simp only[lU] at U ⊢
  split at U
  ·rename_i v hv
   rw[lW h hv]
   split at U
   ·rename_i cs SJ I J
    simp only[I,LF h J];exact U
   ·cases U
  ·cases U
theorem ez {t e len d:Nat} {parts:Array (Nat×Operand)} {bK:List (Nat×List V)} {l fl:List (List V)} (aa:o.op = .buildSlice t len parts:=by rfl) (ht:P.underlying t=some (.slice e):=by rfl) (aw:lU (bA (looks ops o) env) parts.toList=some bK:=by rfl) (aq:r4 P e len bK=some l:=by rfl) (eI:ls l fl:=by repeat'(first|exact ls.nil|apply ls.cons|exact Norm.nil|apply Norm.cons)) (mW:fl.all (fun cs=>cs.all n8)=true:=by rfl) (aj:bW (bA (looks ops o) env) ops o.guard=some true:=by rfl) (hd:o.dst=some d:=by rfl) (aL:Nat.blt d ad=true:=by rfl) (hlen:Nat.blt 0 len=true:=by rfl) (jJ:Nat.ble (len * (dt P e).getD 0) 16777216=true:=by rfl) (ag:k+1=bq:=by(simp only[Nat.reduceAdd];rfl)) (dl:Nat.ble aA k=true:=by rfl)
  (h:bk P ad aA ops W bq rest ((d,.ro fl) :: env) heap Q):bk P ad aA ops W k (o :: rest) env heap Q:=by
 have e:=eI.eq
 subst e
 subst ag
 refine nH (s:=⟨.ro l,[]⟩) (fun N _ _=>⟨bA (looks ops o) env,[],fun t x h=>mV h,fun id B h=>(by cases h),fun id h=>(rY h).elim,u9 aj (fun gm cS ay ak=>?_)⟩) ?_ dl
 ·have:=Lp (P:=P) (n0:=N) (st:=⟨gm,cS,N,ad⟩) aa hd aL ht (LF ay aw) aq mW hlen jJ
  rw[hd]
  exact this
 ·rw[hd];exact h
theorem LG {x y:Operand} {t:Nat} (aa:o.op = .call { callee:=.builtin .append,args:=#[x,y],argTypes:=#[t,t] }):A6 o.op=true:=by rw[aa];rfl
theorem cE {x y:Operand} {t e s dL id d:Nat} {l m r:List (List V)} {v:V} (hr:l++m=r) (hm:∀ i,i<m.length->(bH m i).length=s) (fF:(l.length+m.length) * dL<=140737488355328) (h63:l.length+m.length<=9223372036854775807)
  (aa:o.op = .call { callee:=.builtin .append,args:=#[x,y],argTypes:=#[t,t] }:=by rfl) (U:aI (bA (looks ops o) env) x=some (.own id):=by rfl) (hh:bd heap id=some (.row e s l):=by rfl) (ai:aI (bA (looks ops o) env) y=some v:=by rfl) (hv:ha [] v=some m:=by rfl)
  (ht:P.underlying t=some (.slice e):=by rfl) (ap:dt P e=some s:=by rfl) (hb:j1 P e=some dL:=by rfl) (bh:∃ z,gR P e=some z/\z.length=s:=by exact⟨_,rfl,rfl⟩) (aj:bW (bA (looks ops o) env) ops o.guard=some true:=by rfl) (hd:o.dst=some d:=by rfl) (aL:Nat.blt d ad=true:=by rfl) (ag:k+1=bq:=by(simp only[Nat.reduceAdd];rfl)) (dl:Nat.ble aA k=true:=by rfl) (mi:W (k - aA) id=true:=by rfl) (x8:kp ops W aA (k - aA) id=true:=by kernel_rfl)
  (h:bk P ad aA ops W bq rest ((d,.own k) :: env) ((k,some (.row e s r)) :: (id,none) :: heap) Q):bk P ad aA ops W k (o :: rest) env heap Q:=by
 subst hr
 refine tt (Hn:=[(id,some (.row e s l))]) (H:=[(k,some (.row e s (l++m))),(id,none)]) aj hd ag dl (LD x8 hh) (fun dQ h=>?_) (fun N gm cS ay ak=>Fo (st:=⟨gm,cS,N,ad⟩) aa hd aL (lW ay U) (ak id (.row e s l) (by simp[bd])) (lW ay ai) (Bn (E:=[]) (fun t x h=>by cases h) hv) ht ap hb bh hm fF h63) h
 simp only[kI,Bool.or_false,Bool.or_eq_true] at h
 rcases h with h|h
 ·exact .inl (Nat.eq_of_beq_eq_true h).symm
 ·rw[<- Nat.eq_of_beq_eq_true h];exact .inr ⟨mi,LG aa,x8⟩
theorem kQ {x y:Operand} {t e s dL id d:Nat} {l m r:List (List V)} {v:V} (hr:l++m=r) (hm:∀ i,i<m.length->(bH m i).length=s) (fF:(l.length+m.length) * dL<=140737488355328) (h63:l.length+m.length<=9223372036854775807)
  (aa:o.op = .call { callee:=.builtin .append,args:=#[x,y],argTypes:=#[t,t] }:=by rfl) (U:aI (bA (looks ops o) env) x=some (.own id):=by rfl) (hh:bd heap id=some (.row e s l):=by rfl) (ai:aI (bA (looks ops o) env) y=some v:=by rfl) (hv:ha [] v=some m:=by rfl)
  (ht:P.underlying t=some (.slice e):=by rfl) (ap:dt P e=some s:=by rfl) (hb:j1 P e=some dL:=by rfl) (bh:∃ z,gR P e=some z/\z.length=s:=by exact⟨_,rfl,rfl⟩) (aj:bW (bA (looks ops o) env) ops o.guard=some true:=by rfl) (hd:o.dst=some d:=by rfl) (aL:Nat.blt d ad=true:=by rfl) (ag:k+1=bq:=by(simp only[Nat.reduceAdd];rfl)) (dl:Nat.ble aA k=true:=by rfl) (mi:W (k - aA) id=true:=by rfl) (x8:kp ops W aA (k - aA) id=true:=by kernel_rfl)
  (h:bk P ad aA ops W bq rest ((d,.ro r) :: env) ((id,none) :: heap) Q):bk P ad aA ops W k (o :: rest) env heap Q:=by
 subst hr
 refine tt (Hn:=[(id,some (.row e s l))]) (H:=[(id,none)]) aj hd ag dl (LD x8 hh) (fun dQ h=>?_) (fun N gm cS ay ak=>LA (st:=⟨gm,cS,N,ad⟩) aa hd aL (lW ay U) (ak id (.row e s l) (by simp[bd])) (lW ay ai) (Bn (E:=[]) (fun t x h=>by cases h) hv) ht ap hb bh hm fF h63) h
 rw[rZ h];exact .inr ⟨mi,LG aa,x8⟩
end
end
section
variable {P:Program} {o:Oper} {n0:Nat}
def mB (P:Program) (heap:List (Nat×Option aY)):List Oper->List (Nat×V)->List (Nat×V)
 | [],env=>env
 | o :: os,env=>match o.dst with
  | none=>mB P heap os env
  | some d=>match o.op with
   | .indexAddr _ (.tmp t) _=>match cG env t with
    | some (.own id)=>mB P heap os ((d,.ptr id 0 0 0) :: env)
    | _=>mB P heap os env
   | .move (.tmp t)=>match cG env t with
    | some v=>mB P heap os ((d,v) :: env)
    | none=>mB P heap os env
   | .assign (.tmp t)=>match cG env t with
    | some v=>mB P heap os ((d,v) :: env)
    | none=>mB P heap os env
   | .fieldAddr T x f=>match tj P [] ⟨env,heap,0,0⟩ (.fieldAddr T x f) with
    | some v=>mB P heap os ((d,v) :: env)
    | none=>mB P heap os env
   | .nilCheck (.tmp t)=>match cG env t with
    | some v=>mB P heap os ((d,v) :: env)
    | none=>mB P heap os env
   | .load T x=>match tj P [] ⟨env,heap,0,0⟩ (.load T x) with
    | some v=>mB P heap os ((d,v) :: env)
    | none=>mB P heap os env
   | _=>mB P heap os env
def TL (heap:List (Nat×Option aY)) (id:Nat):List Nat:=match bd heap id with
 | some (.box _ cs)=>cs.filterMap (fun c=>match c with
  | .own i=>some i
  | .ptr i _ _ _=>some i
  | _=>none)
 | _=>[]
def FM (env:List (Nat×V)) (heap:List (Nat×Option aY)):List Operand->List Nat
 | []=>[]
 | .tmp t :: xs=>(match cG env t with
  | some (.ptr id _ _ _)=>id :: TL heap id
  | _=>[])++FM env heap xs
 | _ :: xs=>FM env heap xs
def tu (env:List (Nat×V)) (heap:List (Nat×Option aY)):Nat->List Oper->List (Nat×Nat)
 | _,[]=>[]
 | j,o :: os=>match o.op with
  | .store _ (.tmp t) _=>match cG env t with
   | some (.ptr id _ _ _)=>(j,id) :: tu env heap (j+1) os
   | _=>tu env heap (j+1) os
  | .call { callee:=.builtin .append,args:=⟨.tmp t :: _⟩,argTypes:=_ }=>match cG env t with
   | some (.own id)=>(j,id) :: tu env heap (j+1) os
   | _=>tu env heap (j+1) os
  | .call { callee:=.value (.func _),args:=xs,argTypes:=_ }=>(FM env heap xs.toList).map (fun i=>(j,i))++tu env heap (j+1) os
  | _=>tu env heap (j+1) os
inductive ve:List (Nat×Nat)->List (Nat×Nat)->Prop
 | nil:ve [] []
 | cons {a b:Nat} {l m:List (Nat×Nat)} (h:ve l m):ve ((a,b) :: l) ((a,b) :: m)
def FN:List (Nat×Nat)->Nat->Nat->Bool
 | [],_,_=>false
 | (a,b) :: l,j,x=>(Nat.beq a j && Nat.beq b x) || FN l j x
def mX:List Nat->Nat->Bool
 | [],_=>false
 | a :: l,x=>Nat.beq a x || mX l x
def LH (l:List Oper) (j:Nat):Bool:=match l[j]? with
 | some o=>SY o.op
 | none=>false
theorem Bo {id:Nat} {st:ba} {Q:Exit->ba->Prop} {l:List Oper} {ws:List (Nat×Nat)} (h:bk P st.ad st.next l (fun j id=>(Nat.ble st.next id && LH l j) || FN ws j id) st.next l st.env st.heap (Q .normal)) (hw:ve (tu (mB P st.heap l st.env) st.heap 0 l) ws:=by repeat'(first|exact ve.nil|apply ve.cons))
  (hm:P.follows .mixedOrders=true:=by kernel_rfl) (bu:xA l=true:=by kernel_rfl) (hn0:Nat.ble n0 st.next=true:=by kernel_rfl) :
  cq P n0 (.region id l.toArray true) st Q:=K4 _ h hm bu hn0
end
theorem Is {α:Type} {enc:α->List V} {s:Nat} {l:List α} (h:∀ x,(enc x).length=s):∀ i,i<(l.map enc).length->(bH (l.map enc) i).length=s:=fun i hi=>by
 rw[List.length_map] at hi
 unfold bH
 rw[List.getD_eq_getElem?_getD,List.getElem?_map,List.getElem?_eq_getElem hi]
 exact h _
theorem CD {s:Nat} {c:List V} (h:c.length=s):∀ i,i<[c].length->(bH [c] i).length=s:=fun i hi=>by
 have:i=0:=by simpa using hi
 subst this;exact h
theorem Qb {s:Nat} {c d:List V} (h:c.length=s) (J:d.length=s):∀ i,i<[c,d].length->(bH [c,d] i).length=s:=fun i hi=>by
 rcases i with _|_|i
 ·exact h
 ·exact J
 ·simp at hi;omega
theorem Qa {s:Nat}:∀ i,i<([]:List (List V)).length->(bH [] i).length=s:=fun i hi=>by simp at hi
section
variable {P:Program} {o:Oper} {n0:Nat} {ops:List Oper} {rest:List Oper} {env:List (Nat×V)} {heap:List (Nat×Option aY)} {next ad:Nat} {Q:ba->Prop}
theorem cD {x y:Operand} {t e s dL d:Nat} {m r:List (List V)} {v:V} (hr:m=r) (hm:∀ i,i<m.length->(bH m i).length=s) (fF:m.length * dL<=140737488355328) (h63:m.length<=9223372036854775807)
  (aa:o.op = .call { callee:=.builtin .append,args:=#[x,y],argTypes:=#[t,t] }:=by rfl) (U:aI env x=some (.lit (.slice none 0 0)):=by rfl) (ai:aI env y=some v:=by rfl) (hv:ha heap v=some m:=by rfl)
  (ht:P.underlying t=some (.slice e):=by rfl) (ap:dt P e=some s:=by rfl) (hb:j1 P e=some dL:=by rfl) (bh:∃ z,gR P e=some z/\z.length=s:=by exact⟨_,rfl,rfl⟩) (af:Nat.blt 0 s=true:=by rfl) (aj:bW env ops o.guard=some true:=by rfl) (hd:o.dst=some d:=by rfl) (aL:Nat.blt d ad=true:=by rfl) (hn0:Nat.ble n0 next=true:=by rfl)
  (h:a8 P n0 ops.toArray rest ⟨(d,.own next) :: env,(next,some (.row e s r)) :: heap,next+1,ad⟩ Q):a8 P n0 ops.toArray (o :: rest) ⟨env,heap,next,ad⟩ Q:=by
 subst hr;exact TH hm fF h63 aa U ai hv ht ap hb bh af aj hd aL hn0 h
theorem kP {x y:Operand} {t e s dL d:Nat} {m r:List (List V)} {v:V} (hr:m=r) (hm:∀ i,i<m.length->(bH m i).length=s) (fF:m.length * dL<=140737488355328) (h63:m.length<=9223372036854775807)
  (aa:o.op = .call { callee:=.builtin .append,args:=#[x,y],argTypes:=#[t,t] }:=by rfl) (U:aI env x=some (.lit (.slice none 0 0)):=by rfl) (ai:aI env y=some v:=by rfl) (hv:ha heap v=some m:=by rfl)
  (ht:P.underlying t=some (.slice e):=by rfl) (ap:dt P e=some s:=by rfl) (hb:j1 P e=some dL:=by rfl) (bh:∃ z,gR P e=some z/\z.length=s:=by exact⟨_,rfl,rfl⟩) (af:Nat.blt 0 s=true:=by rfl) (aj:bW env ops o.guard=some true:=by rfl) (hd:o.dst=some d:=by rfl) (aL:Nat.blt d ad=true:=by rfl) (hn0:Nat.ble n0 next=true:=by rfl)
  (h:a8 P n0 ops.toArray rest ⟨(d,.ro r) :: env,heap,next+1,ad⟩ Q):a8 P n0 ops.toArray (o :: rest) ⟨env,heap,next,ad⟩ Q:=by
 subst hr;exact TI hm fF h63 aa U ai hv ht ap hb bh af aj hd aL hn0 h
theorem eB {t e s d:Nat} (aa:o.op = .buildSlice t 0 #[]:=by rfl) (ht:P.underlying t=some (.slice e):=by rfl) (ap:dt P e=some s:=by rfl) (af:Nat.blt 0 s=true:=by rfl) (aj:bW env ops o.guard=some true:=by rfl) (hd:o.dst=some d:=by rfl) (aL:Nat.blt d ad=true:=by rfl) (hn0:Nat.ble n0 next=true:=by rfl)
  (h:a8 P n0 ops.toArray rest ⟨(d,.own next) :: env,(next,some (.row e s [])) :: heap,next+1,ad⟩ Q):a8 P n0 ops.toArray (o :: rest) ⟨env,heap,next,ad⟩ Q:=
 jI aj (n5 (Nat.le_of_ble_eq_true hn0) (LC (st:={ env:=env,heap:=heap,next:=next+1,ad:=ad }) aa hd aL ht ap af)) h
end
section
variable {P:Program} {o:Oper} {ad aA k bq:Nat} {ops:List Oper} {W:Nat->Nat->Bool} {rest:List Oper} {env:List (Nat×V)} {heap:List (Nat×Option aY)} {Q:ba->Prop}
theorem cF {x y:Operand} {t e s dL d:Nat} {m r:List (List V)} {v:V} (hr:m=r) (hm:∀ i,i<m.length->(bH m i).length=s) (fF:m.length * dL<=140737488355328) (h63:m.length<=9223372036854775807)
  (aa:o.op = .call { callee:=.builtin .append,args:=#[x,y],argTypes:=#[t,t] }:=by rfl) (U:aI (bA (looks ops o) env) x=some (.lit (.slice none 0 0)):=by rfl) (ai:aI (bA (looks ops o) env) y=some v:=by rfl) (hv:ha [] v=some m:=by rfl)
  (ht:P.underlying t=some (.slice e):=by rfl) (ap:dt P e=some s:=by rfl) (hb:j1 P e=some dL:=by rfl) (bh:∃ z,gR P e=some z/\z.length=s:=by exact⟨_,rfl,rfl⟩) (af:Nat.blt 0 s=true:=by rfl) (aj:bW (bA (looks ops o) env) ops o.guard=some true:=by rfl) (hd:o.dst=some d:=by rfl) (aL:Nat.blt d ad=true:=by rfl) (ag:k+1=bq:=by(simp only[Nat.reduceAdd];rfl)) (dl:Nat.ble aA k=true:=by rfl)
  (h:bk P ad aA ops W bq rest ((d,.own k) :: env) ((k,some (.row e s r)) :: heap) Q):bk P ad aA ops W k (o :: rest) env heap Q:=by
 subst hr;exact TJ hm fF h63 aa U ai hv ht ap hb bh af aj hd aL ag dl h
theorem kR {x y:Operand} {t e s dL d:Nat} {m r:List (List V)} {v:V} (hr:m=r) (hm:∀ i,i<m.length->(bH m i).length=s) (fF:m.length * dL<=140737488355328) (h63:m.length<=9223372036854775807)
  (aa:o.op = .call { callee:=.builtin .append,args:=#[x,y],argTypes:=#[t,t] }:=by rfl) (U:aI (bA (looks ops o) env) x=some (.lit (.slice none 0 0)):=by rfl) (ai:aI (bA (looks ops o) env) y=some v:=by rfl) (hv:ha [] v=some m:=by rfl)
  (ht:P.underlying t=some (.slice e):=by rfl) (ap:dt P e=some s:=by rfl) (hb:j1 P e=some dL:=by rfl) (bh:∃ z,gR P e=some z/\z.length=s:=by exact⟨_,rfl,rfl⟩) (af:Nat.blt 0 s=true:=by rfl) (aj:bW (bA (looks ops o) env) ops o.guard=some true:=by rfl) (hd:o.dst=some d:=by rfl) (aL:Nat.blt d ad=true:=by rfl) (ag:k+1=bq:=by(simp only[Nat.reduceAdd];rfl)) (dl:Nat.ble aA k=true:=by rfl)
  (h:bk P ad aA ops W bq rest ((d,.ro r) :: env) heap Q):bk P ad aA ops W k (o :: rest) env heap Q:=by
 subst hr;exact TK hm fF h63 aa U ai hv ht ap hb bh af aj hd aL ag dl h
end
def hW (inv:Nat->Option Nat) (heap:List (Nat×Option aY)):V->Option V
 | .lit u=>some (.lit u)
 | .ro l=>some (.ro l)
 | .e9 cs=>some (.e9 cs)
 | .own id=>match inv id with
  | some dQ=>some (.own dQ)
  | none=>match bd heap id with
   | some (.row _ _ l)=>some (.ro l)
   | some (.gb l)=>some (.ro l)
   | _=>none
 | .ptr id i s j=>match inv id with
  | some dQ=>some (.ptr dQ i s j)
  | none=>none
 | .agg cs=>match qK cs with
  | some fk=>some (.agg fk)
  | none=>none
 | .b0 cs=>match qK cs with
  | some fk=>some (.b0 fk)
  | none=>none
 | .gi f cs=>match qK cs with
  | some fk=>some (.gi f fk)
  | none=>none
 | .any=>some .any
 | .gl=>some .gl
where qK:List V->Option (List V)
 | []=>some []
 | c :: cs=>match hW inv heap c,qK cs with
  | some hV,some fk=>some (hV :: fk)
  | _,_=>none
theorem x9 {inv:Nat->Option Nat} {heap:List (Nat×Option aY)}:∀ {cs fk:List V},hW.qK inv heap cs=some fk -> fk.length=cs.length /\ ∀ j,j<cs.length->hW inv heap (bx cs j)=some (bx fk j)
 | [],fk,h=>by
  simp only[hW.qK,Option.some.injEq] at h
  subst h
  exact⟨rfl,fun j ah=>by simp at ah⟩
 | c :: cs,fk,h=>by
  simp only[hW.qK] at h
  split at h
  ·rename_i hV Kz I J
   injection h with h;subst h
   obtain ⟨aH,aN⟩:=x9 J
   refine ⟨by simp[aH],fun j ah=>?_⟩
   cases j with
   | zero=>simpa[bx] using I
   | succ j=>
    have:=aN j jD
    simpa[bx] using this
  ·cases h
def hX (inv:Nat->Option Nat) (heap:List (Nat×Option aY)):aY->Option aY
 | .box t cs=>match hW.qK inv heap cs with
  | some fk=>some (.box t fk)
  | none=>none
 | .jG _ _ _=>none
 | B=>some B
structure Ren (n0 bL:Nat) (inv:Nat->Option Nat) (mp:Nat->Nat):Prop where
 le:n0<=bL
 back:∀ {o n},inv o=some n->mp n=o/\n<bL
 low:∀ {i},i<n0->inv i=some i
def mC (ρ:Nat->Option Value) (inv:Nat->Option Nat) (mp:Nat->Nat):Nat->Option Value:=fun id=>if inv (mp id)=some id then ρ (mp id) else none
theorem vf {ρ:Nat->Option Value} {inv:Nat->Option Nat} {mp:Nat->Nat} {id:Nat} {u:Value} (h:mC ρ inv mp id=some u):inv (mp id)=some id/\ρ (mp id)=some u:=by
 unfold mC at h
 split at h
 ·exact⟨by assumption,h⟩
 ·cases h
theorem tv {n0 bL:Nat} {ρ:Nat->Option Value} {inv:Nat->Option Nat} {mp:Nat->Nat} (hr:Ren n0 bL inv mp) {o n:Nat} (h:inv o=some n):mC ρ inv mp n=ρ o:=by
 have e:=(hr.back h).1
 unfold mC
 rw[e,if_pos h]
section
variable {P:Program} {n0:Nat}
theorem LI {F:Nat->Prop} {ρ:Nat->Option Value} {heap cS:List (Nat×Option aY)} {inv:Nat->Option Nat} {mp:Nat->Nat}
  (hh:∀ id bT,bd cS id=some bT -> inv (mp id)=some id /\ ∃ B,bd heap (mp id)=some B/\hX inv heap B=some bT) {b:Nat} (h:bC F ρ heap b):bC F (mC ρ inv mp) cS b:=by
 refine ⟨h.1,fun id bT u aB aa hu=>?_⟩
 obtain ⟨_,B,J,av⟩:=hh id bT aB
 refine h.2 (mp id) B u J ?_ (vf hu).2
 cases B with
 | box t cs=>rfl
 | row=>rfl
 | gb l=>simp only[hX,Option.some.injEq] at av;subst av;cases aa
 | map q es=>rfl
 | obj o=>rfl
 | mQ be ln=>rfl
 | jG e s l=>simp only[hX] at av;cases av
 | jX q es=>simp only[hX,Option.some.injEq] at av;subst av;cases aa
 | iter left dp=>rfl
theorem Bp {F base:Nat->Prop} {ρ:Nat->Option Value} {heap cS:List (Nat×Option aY)} {next bL:Nat} {w0 w:World} {inv:Nat->Option Nat} {mp:Nat->Nat} (hr:Ren n0 bL inv mp) (ak:en F base ρ heap next w0 w)
  (hh:∀ id bT,bd cS id=some bT -> inv (mp id)=some id /\ ∃ B,bd heap (mp id)=some B/\hX inv heap B=some bT) {v:V} {u:Value} (h:cC ρ (bC F ρ heap) w v u):∀ {cX},hW inv heap v=some cX -> cC (mC ρ inv mp) (bC F (mC ρ inv mp) cS) w cX u:=by
 have hS:∀ b,bC F ρ heap b->b<w.heap.size->bC F (mC ρ inv mp) cS b:=fun b h _=>LI hh h
 induction h with
 | @pure v u h=>
  intro cX hv
  have aw:=h.mono (dX.refl _ _) hS
  cases h with
  | lit=>simp only[hW,Option.some.injEq] at hv;subst hv;exact .pure aw
  | ro=>simp only[hW,Option.some.injEq] at hv;subst hv;exact .pure aw
 | @own id u h=>
  intro cX hv
  simp only[hW] at hv
  split at hv
  ·rename_i dQ hi
   injection hv with hv;subst hv
   exact .own (by rw[tv hr hi];exact h)
  ·rename_i hi
   split at hv
   ·rename_i e s l ya
    injection hv with hv;subst hv
    obtain ⟨af,v,xs,I,⟨J,_⟩,av,bl⟩:=ak.dB _ _ ya
    rw[h] at I;injection I with I;subst I
    refine .pure (E7 af J av bl hS (fun b hb=>⟨ak.ch b (ak.owned ya rfl h hb).1,fun dQ bT ev cJ eJ ec gP=>?_⟩))
    obtain ⟨g1,B,g2,g3⟩:=hh dQ bT cJ
    obtain ⟨g4,g5⟩:=vf ec
    have wW:B.owns=true:=by
     cases B with
     | box t cs=>rfl
     | row=>rfl
     | gb l=>simp only[hX,Option.some.injEq] at g3;subst g3;cases eJ
     | map q es=>rfl
     | obj o=>rfl
     | mQ be ln=>rfl
     | jG e s l=>simp only[hX] at g3;cases g3
     | jX q es=>simp only[hX,Option.some.injEq] at g3;subst g3;cases eJ
     | iter left dp=>rfl
    have:=ak.inj _ _ _ _ _ _ b g2 ya wW rfl g5 h gP hb
    rw[this,hi] at g1;cases g1
   ·rename_i l ya
    injection hv with hv;subst hv
    obtain ⟨v,I,J,_⟩:=ak.dB _ _ ya
    rw[h] at I;injection I with I;subst I
    exact .pure (J.mono (dX.refl _ _) hS)
   ·cases hv
 | @ptr id i s j b u h hb=>
  intro cX hv
  simp only[hW] at hv
  split at hv
  ·rename_i dQ hi
   injection hv with hv;subst hv
   exact .ptr (by rw[tv hr hi];exact h) hb
  ·cases hv
 | e9 us pt hc lx=>
  intro cX hv
  simp only[hW,Option.some.injEq] at hv;subst hv
  exact .e9 us (fun h=>hS _ (pt h) (pq (hc 0 h))) hc (fun j ah=>(lx j ah).mono (dX.refl _ _) hS)
 | agg hn h cf=>
  intro cX hv
  simp only[hW] at hv
  split at hv
  ·rename_i fk iW
   injection hv with hv;subst hv
   obtain ⟨aH,aN⟩:=x9 iW
   exact .agg (by rw[aH];exact hn) (fun j ah=>cf j (by omega) (aN j (by omega)))
  ·cases hv
 | b0 hn h cf=>
  intro cX hv
  simp only[hW] at hv
  split at hv
  ·rename_i fk iW
   injection hv with hv;subst hv
   obtain ⟨aH,aN⟩:=x9 iW
   exact .b0 (by rw[aH];exact hn) (fun j ah=>cf j (by omega) (aN j (by omega)))
  ·cases hv
 | gi hn h cf=>
  intro cX hv
  simp only[hW] at hv
  split at hv
  ·rename_i fk iW
   injection hv with hv;subst hv
   obtain ⟨aH,aN⟩:=x9 iW
   exact .gi (by rw[aH];exact hn) (fun j ah=>cf j (by omega) (aN j (by omega)))
  ·cases hv
 | any u=>intro cX hv;simp only[hW,Option.some.injEq] at hv;subst hv;exact .any u
 | gl=>intro cX hv;simp only[hW,Option.some.injEq] at hv;subst hv;exact .gl
theorem yb {F base:Nat->Prop} {ρ:Nat->Option Value} {heap cS:List (Nat×Option aY)} {next bL:Nat} {w0 w:World} {inv:Nat->Option Nat} {mp:Nat->Nat} (hr:Ren n0 bL inv mp) (ak:en F base ρ heap next w0 w)
  (hh:∀ id bT,bd cS id=some bT -> inv (mp id)=some id /\ ∃ B,bd heap (mp id)=some B/\hX inv heap B=some bT):en F base (mC ρ inv mp) cS bL w0 w:=by
 have hS:∀ b,bC F ρ heap b->b<w.heap.size->bC F (mC ρ inv mp) cS b:=fun b h _=>LI hh h
 have lr:∀ {B bT:aY},hX inv heap B=some bT -> bT.owns=true->B.owns=true:=fun {B bT} h aa=>by
  cases B with
  | box t cs=>rfl
  | row=>rfl
  | gb l=>simp only[hX,Option.some.injEq] at h;subst h;cases aa
  | map q es=>rfl
  | obj o=>rfl
  | mQ be ln=>rfl
  | jG e s l=>simp only[hX] at h;cases h
  | jX q es=>simp only[hX,Option.some.injEq] at h;subst h;cases aa
  | iter left dp=>rfl
 refine ⟨⟨ak.below,ak.fC,fun id u hu=>⟨(hr.back (vf hu).1).2,(ak.sup _ u (vf hu).2).2⟩,fun id dQ B bT u ev b aB cJ aa eJ hu ec hb dl=>?_,fun id bT cJ=>?_⟩,ak.ch⟩
 ·obtain ⟨g1,C,g2,g3⟩:=hh id B aB
  obtain ⟨bL,FO,gT,iN⟩:=hh dQ bT cJ
  have:=ak.inj _ _ _ _ _ _ b g2 gT (lr g3 aa) (lr iN eJ) (vf hu).2 (vf ec).2 hb dl
  rw[this,bL] at g1;injection g1 with g1;exact g1.symm
 ·obtain ⟨g1,B,g2,g3⟩:=hh id bT cJ
  have fw:=ak.dB _ _ g2
  have e:mC ρ inv mp id=ρ (mp id):=by unfold mC;rw[if_pos g1]
  cases B with
  | box t cs=>
   obtain ⟨b,us,aT,a1,bz,cW,gA⟩:=fw
   simp only[hX] at g3
   split at g3
   ·rename_i fk iW
    injection g3 with g3;subst g3
    obtain ⟨aH,aN⟩:=x9 iW
    exact⟨b,us,by rw[e];exact aT,a1,bz,by omega,fun j ah=>⟨Bp hr ak hh (gA j (by omega)).1 (aN j (by omega)),(gA j (by omega)).2⟩⟩
   ·cases g3
  | row ty s l=>
   simp only[hX,Option.some.injEq] at g3;subst g3
   obtain ⟨af,v,xs,aT,a1,bz,cW⟩:=fw
   exact⟨af,v,xs,by rw[e];exact aT,a1,bz,fun i j hi ah=>by
    obtain ⟨u,hu,aw,aa⟩:=cW i j hi ah
    exact⟨u,hu,aw.mono (dX.refl _ _) hS,aa⟩⟩
  | gb l=>
   simp only[hX,Option.some.injEq] at g3;subst g3
   obtain ⟨v,aT,a1,bz⟩:=fw
   exact⟨v,by rw[e];exact aT,a1.mono (dX.refl _ _) hS,bz⟩
  | map q es=>
   simp only[hX,Option.some.injEq] at g3;subst g3
   obtain ⟨b,cn,clock,aT,a1⟩:=fw
   exact⟨b,cn,clock,by rw[e];exact aT,a1⟩
  | obj o=>
   simp only[hX,Option.some.injEq] at g3;subst g3
   obtain ⟨b,aT,a1⟩:=fw
   exact⟨b,by rw[e];exact aT,a1⟩
  | mQ be ln=>
   simp only[hX,Option.some.injEq] at g3;subst g3
   obtain ⟨b,cap,dp,iY,aT,a1⟩:=fw
   exact⟨b,cap,dp,iY,by rw[e];exact aT,a1⟩
  | jG ty s l=>simp only[hX] at g3;cases g3
  | jX q es=>
   simp only[hX,Option.some.injEq] at g3;subst g3
   obtain ⟨b,cn,clock,aT,a1,bz⟩:=fw
   exact⟨b,cn,clock,by rw[e];exact aT,hS b a1 (Array.getElem?_eq_some_iff.1 bz.1).1,bz⟩
  | iter left dp=>
   simp only[hX,Option.some.injEq] at g3;subst g3
   obtain ⟨r,b,cn,clock,since,seen,aS,aT,a1,bz,cW,gA⟩:=fw
   exact⟨r,b,cn,clock,since,seen,aS,by rw[e];exact aT,a1,bz,hS b cW (Array.getElem?_eq_some_iff.1 gA.1).1,gA⟩
def hg:List (Nat×Nat)->Nat->Option Nat
 | [],_=>none
 | (o,n) :: r,x=>bif Nat.beq o x then some n else hg r x
def j4:List (Nat×Nat)->Nat->Nat
 | [],x=>x
 | (o,n) :: r,x=>bif Nat.beq n x then o else j4 r x
def r5 (n0 bL:Nat) (L:List (Nat×Nat)):Bool:=Nat.ble n0 bL && ((L.all fun p=>Nat.beq (j4 L p.2) p.1 && Nat.blt p.2 bL) && (List.range n0).all fun i=>match hg L i with|some j=>Nat.beq j i|none=>false)
theorem LJ:∀ {L:List (Nat×Nat)} {o n:Nat},hg L o=some n->(o,n) ∈ L
 | [],o,n,h=>by cases h
 | (a,b) :: r,o,n,h=>by
  simp only[hg] at h
  cases hb:Nat.beq a o with
  | true=>
   rw[hb] at h
   simp only[cond_true,Option.some.injEq] at h
   rw[<- h,<- Nat.eq_of_beq_eq_true hb]
   exact List.mem_cons_self ..
  | false=>rw[hb] at h;exact List.mem_cons_of_mem _ (LJ h)
theorem tw {n0 bL:Nat} {L:List (Nat×Nat)} (h:r5 n0 bL L=true):Ren n0 bL (hg L) (j4 L):=by
 unfold r5 at h
 simp only[Bool.and_eq_true,List.all_eq_true] at h
 obtain ⟨I,J,av⟩:=h
 refine ⟨Nat.le_of_ble_eq_true I,fun {o n} hi=>?_,fun {i} hi=>?_⟩
 ·have:=J _ (LJ hi)
  exact⟨Nat.eq_of_beq_eq_true this.1,Nat.le_of_ble_eq_true this.2⟩
 ·have:=av i (List.mem_range.2 hi)
  split at this
  ·rename_i j ah;rw[ah,Nat.eq_of_beq_eq_true this]
  ·cases this
def Bq (L:List (Nat×Nat)) (heap:List (Nat×Option aY)) (env:List (Nat×V)):List (Nat×V)->Prop
 | []=>True
 | (t,v) :: r=>(∃ u,cG env t=some u/\hW (hg L) heap u=some v)/\Bq L heap env r
theorem LK {L:List (Nat×Nat)} {heap:List (Nat×Option aY)} {env:List (Nat×V)}:∀ {e:List (Nat×V)},Bq L heap env e -> ∀ t v,cG e t=some v -> ∃ u,cG env t=some u/\hW (hg L) heap u=some v
 | [],_,t,v,h=>by simp[cG] at h
 | (s,x) :: r,hc,t,v,h=>by
  simp only[cG] at h
  cases hb:Nat.beq s t with
  | true=>rw[hb] at h;simp only[cond_true,Option.some.injEq] at h;rw[<- h,<- Nat.eq_of_beq_eq_true hb];exact hc.1
  | false=>rw[hb] at h;exact LK hc.2 t v h
def r6 (L:List (Nat×Nat)) (heap:List (Nat×Option aY)):List (Nat×Option aY)->Prop
 | []=>True
 | (id,none) :: r=>r6 L heap r
 | (id,some bT) :: r=>(hg L (j4 L id)=some id /\ ∃ B,bd heap (j4 L id)=some B/\hX (hg L) heap B=some bT)/\r6 L heap r
theorem vg {L:List (Nat×Nat)} {heap:List (Nat×Option aY)}:∀ {e:List (Nat×Option aY)},r6 L heap e -> ∀ id bT,bd e id=some bT -> hg L (j4 L id)=some id /\ ∃ B,bd heap (j4 L id)=some B/\hX (hg L) heap B=some bT
 | [],_,t,v,h=>by simp[bd] at h
 | (s,none) :: r,hc,t,v,h=>by
  rw[ea] at h
  split at h
  ·cases h
  ·exact vg (e:=r) hc t v h
 | (s,some u) :: r,hc,t,v,h=>by
  rw[ea] at h
  split at h
  ·rename_i e;subst e;injection h with h;subst h;exact hc.1
  ·exact vg (e:=r) hc.2 t v h
theorem TM {st bG:ba} (L:List (Nat×Nat)) (dx:r5 n0 bG.next L=true) (hc:Bq L st.heap st.env bG.env) (hh:r6 L st.heap bG.heap) (hnt:bG.ad=st.ad):cu P n0 st bG:=
 fun F base w0 ρ a w ak ay=>by
  have hr:=tw dx
  have hh:=vg hh
  refine ⟨mC ρ (hg L) (j4 L),yb hr ak hh,⟨by rw[hnt];exact ay.size,ay.defers,fun t v hv=>?_⟩,fun id hid=>tv hr (hr.low hid)⟩
  obtain ⟨u,I,J⟩:=LK hc t v hv
  exact Bp hr ak hh (ay.slot t u I) J
def FP:V->V->List (Nat×Nat)
 | .own a,.own b=>[(a,b)]
 | .ptr a _ _ _,.ptr b _ _ _=>[(a,b)]
 | .agg cs,.agg ds=>yc cs ds
 | .b0 cs,.b0 ds=>yc cs ds
 | .gi _ cs,.gi _ ds=>yc cs ds
 | _,_=>[]
where yc:List V->List V->List (Nat×Nat)
 | c :: cs,d :: ds=>FP c d++yc cs ds
 | _,_=>[]
def Br (env:List (Nat×V)):List (Nat×V)->List (Nat×Nat)
 | []=>[]
 | (t,v) :: r=>match cG env t with
  | some u=>FP u v++Br env r
  | none=>Br env r
def Bs (L:List (Nat×Nat)) (heap:List (Nat×Option aY)):List (Nat×Option aY)->List (Nat×Nat)
 | []=>[]
 | (id,some (.box _ ds)) :: r=>match bd heap (j4 L id) with
  | some (.box _ cs)=>FP.yc cs ds++Bs L heap r
  | _=>Bs L heap r
 | _ :: r=>Bs L heap r
def FQ:Nat->List (Nat×Nat)
 | 0=>[]
 | n+1=>(n,n) :: FQ n
def LL (n0:Nat) (st bG:ba):List (Nat×Nat):=(FQ n0++Br st.env bG.env)++Bs (FQ n0++Br st.env bG.env) st.heap bG.heap
inductive qL:List (Nat×Nat)->List (Nat×Nat)->Prop
 | nil:qL [] []
 | cons {a b:Nat} {l m:List (Nat×Nat)} (h:qL l m):qL ((a,b) :: l) ((a,b) :: m)
theorem TN {L:List (Nat×Nat)} {heap:List (Nat×Option aY)} {env:List (Nat×V)} {t:Nat} {u v:V} (h:cG env t=some u) (J:hW (hg L) heap u=some v):∃ u,cG env t=some u/\hW (hg L) heap u=some v:=⟨u,h,J⟩
theorem TO {L:List (Nat×Nat)} {heap:List (Nat×Option aY)} {env:List (Nat×V)} {t:Nat} {k:IntKind} {m n:Int} (h:cG env t=some (.lit (.int k m))) (J:m=n):∃ u,cG env t=some u/\hW (hg L) heap u=some (.lit (.int k n)):=⟨_,h,by rw[J];rfl⟩
theorem TP {L:List (Nat×Nat)} {heap:List (Nat×Option aY)} {env:List (Nat×V)} {t:Nat} {l m:List (List V)} (h:cG env t=some (.ro l)) (J:l=m):∃ u,cG env t=some u/\hW (hg L) heap u=some (.ro m):=⟨_,h,by rw[J];rfl⟩
theorem LM {L:List (Nat×Nat)} {heap:List (Nat×Option aY)} {id:Nat} {B bT:aY} (h:bd heap (j4 L id)=some B) (J:hX (hg L) heap B=some bT) (av:hg L (j4 L id)=some id):hg L (j4 L id)=some id /\ ∃ B,bd heap (j4 L id)=some B/\hX (hg L) heap B=some bT:=⟨av,B,h,J⟩
theorem LN {L:List (Nat×Nat)} {heap:List (Nat×Option aY)} {id:Nat} {e s:Nat} {l m:List (List V)} (h:bd heap (j4 L id)=some (.row e s l)) (J:l=m) (av:hg L (j4 L id)=some id):hg L (j4 L id)=some id /\ ∃ B,bd heap (j4 L id)=some B/\hX (hg L) heap B=some (.row e s m):=⟨av,_,h,by rw[J];rfl⟩
theorem TQ {st bG:ba} {L:List (Nat×Nat)} (eI:qL (LL n0 st bG) L) (dx:r5 n0 bG.next L=true) (hc:Bq L st.heap st.env bG.env) (hh:r6 L st.heap bG.heap) (hnt:bG.ad=st.ad):cu P n0 st bG:=TM L dx hc hh hnt
theorem LO {p:Prop} [Decidable p] (h:p):cZ (.lit (.bool true)) (.lit (.bool (decide p))):=by rw[decide_eq_true h];exact .refl _
theorem LP {p:Prop} [Decidable p] (h:¬ p):cZ (.lit (.bool false)) (.lit (.bool (decide p))):=by rw[decide_eq_false h];exact .refl _
theorem LQ {k:IntKind} {m n:Int} (h:m=n):cZ (.lit (.int k m)) (.lit (.int k n)):=by rw[h];exact .refl _
end
section
variable {P:Program} {o:Oper} {ad aA k bq:Nat} {ops:List Oper} {W:Nat->Nat->Bool} {rest:List Oper} {env:List (Nat×V)} {heap:List (Nat×Option aY)} {Q:ba->Prop}
theorem yd {T cA:TypeId} {x y:Operand} {xs k5:List V} {dA:Array Field} {p:Prop} {d:Nat} (aa:o.op = .binOp .eql T x y cA:=by rfl) (U:aI (bA (looks ops o) env) x=some (.agg xs):=by rfl) (ai:aI (bA (looks ops o) env) y=some (.agg k5):=by rfl) (aV:P.underlying T=some (.struct dA):=by rfl) (aw:tr P xs k5 dA.toList=some p:=by rfl) (aj:bW (bA (looks ops o) env) ops o.guard=some true:=by rfl) (hd:o.dst=some d:=by rfl) (aL:Nat.blt d ad=true:=by rfl)
  (hn : dA.toList.all (fun f => !(f.name == "_")) = true := by kernel_rfl) (ap : P.stoodInHeld T = false := by kernel_rfl) (hm : P.eqGuardType P.depth T = false := by kernel_rfl) (ag : k + 1 = bq := by (simp only [Nat.reduceAdd]; rfl)) (hb : Nat.ble aA k = true := by rfl)
  (ht:p->bk P ad aA ops W bq rest ((d,.lit (.bool true)) :: env) heap Q) (hf:¬ p->bk P ad aA ops W bq rest ((d,.lit (.bool false)) :: env) heap Q):bk P ad aA ops W k (o :: rest) env heap Q:=by
 have h:=fun N=>Lr (P:=P) (G:=[]) (st:=⟨bA (looks ops o) env,[],N,ad⟩) aa U ai aV aw hn ap hm
 by_cases aw:p
 ·exact h7 aj hd aL hb ag (fun N=>(h N).1 aw) (ht aw)
 ·exact h7 aj hd aL hb ag (fun N=>(h N).2 aw) (hf aw)
end
section
variable {P:Program} {n0:Nat}
def cU (P:Program) (f:FuncId) (args:List V) (af:List (Nat×Option aY)) (fx:Nat) (r:V) (I:List (Nat×Option aY)) (bL:Nat):Prop:=
 rP P f=true/\fx<=bL /\ ∀ (F base:Nat->Prop) (w0:World) (ρ:Nat->Option Value) (w:World) (gv:Array Value),gv.size=args.length->en F base ρ af fx w0 w->(∀ j,j<args.length->cC ρ (bC F ρ af) w (bx args j) (gv.getD j undef)) ->
  Calls P f gv w fun e aE=>∃ v bm,e = .returned v/\en F base bm I bL w0 aE /\ cC bm (bC F bm I) aE r v /\ ∀ id,id<fx->bm id=ρ id
def LR (P:Program) (fn:Func) (fx:Nat) (r:V) (I:List (Nat×Option aY)) (bL:Nat) (e:Exit) (st:ba):Prop:=
 (e = .ret\/e = .normal) /\ ∃ v fT L,rS P st fn.results.toList=some v/\r5 fx bL L=true/\hW (hg L) st.heap v=some fT /\ cZ fT r/\r6 L st.heap I
theorem gG {f:FuncId} {fn:Func} {c:Code} {args:List V} {af I:List (Nat×Option aY)} {fx bL:Nat} {r:V} (bu:rP P f=true) (hf:P.funcs[f]? = some fn) (hb:fn.body=some c) (hn:Nat.ble args.length fn.ntmps=true) (ag:Nat.ble fx bL=true)
  (h:cq P fx c ⟨rQ 0 args,af,fx,fn.ntmps⟩ (LR P fn fx r I bL)):cU P f args af fx r I bL:=by
 refine ⟨bu,Nat.le_of_ble_eq_true ag,fun F base w0 ρ w gv dZ ak mj=>calls_of_wp hf hb ?_⟩
 have hn:=Nat.le_of_ble_eq_true hn
 have ay:eR ρ (bC F ρ af) w fn.ntmps (rQ 0 args) { tmps:=gv++Array.replicate (fn.ntmps - gv.size) undef,defers:=[] }:=by
  refine ⟨by simp;omega,rfl,fun t v hv=>?_⟩
  obtain ⟨_,J,rfl⟩:=Fb 0 args t v hv
  rw[Nat.sub_zero] at *
  have:=mj t J
  have e:(gv++Array.replicate (fn.ntmps - gv.size) undef).getD t undef=gv.getD t undef:=by
   simp[Array.getElem?_append,show t<gv.size by omega]
  rw[e]
  exact this
 refine wp_mono (h F base w0 ρ _ w ak ay) ?_
 rintro e gQ aE ⟨bm,bG,⟨he,v,fT,L,hv,dx,hr,pS,TR⟩,qw,J,av⟩
 obtain ⟨u,g1,g2⟩:=KE (fn:=fn) qw J hv
 have pF:=tw dx
 have hh:=vg TR
 have uW:=pS.rel (Bp pF qw hh g2 hr)
 have Av:∃ TS lQ,(Exit.ret=Exit.ret->True)/\en F base lQ I bL w0 aE /\ cC lQ (bC F lQ I) aE r TS /\ ∀ id,id<fx->lQ id=ρ id:=
  ⟨u,mC bm (hg L) (j4 L),fun _=>trivial,yb pF qw hh,uW,fun id hid=>(tv pF (pF.low hid)).trans (av id hid)⟩
 rcases he with rfl|rfl
 ·exact⟨J.defers,u,g1,u,_,rfl,yb pF qw hh,uW,fun id hid=>(tv pF (pF.low hid)).trans (av id hid)⟩
 ·exact⟨J.defers,u,g1,u,_,rfl,yb pF qw hh,uW,fun id hid=>(tv pF (pF.low hid)).trans (av id hid)⟩
theorem GZ {f:FuncId} {args:List V} {af I J:List (Nat×Option aY)} {fx bL gT:Nat} {r fT:V} (hf:cU P f args af fx r I bL) (L:List (Nat×Nat)) (dx:r5 fx gT L=true) (hr:hW (hg L) I r=some fT) (hh:r6 L I J):cU P f args af fx fT J gT:=
 ⟨hf.1,(tw dx).le,fun F base w0 ρ w gv dZ ak mj=>(hf.2.2 F base w0 ρ w gv dZ ak mj).mono fun e aE ⟨v,bm,he,aT,a1,bz⟩=>
  ⟨v,mC bm (hg L) (j4 L),he,yb (tw dx) aT (vg hh),Bp (tw dx) aT (vg hh) a1 hr,fun id hid=>(tv (tw dx) ((tw dx).low hid)).trans (bz id hid)⟩⟩
theorem GY {f:FuncId} {args:List V} {r:V} (hf:cU P f args [] 0 r [] 0):Fn P f args r:=by
  refine ⟨hf.1,fun w S gv dZ hS mj=>?_⟩
  have tb:∀ b,bC S (fun _=>none) [] b ↔ S b:=fun b=>⟨fun h=>h.1,fun h=>⟨h,fun id B u aB=>by simp[bd] at aB⟩⟩
  have ak:en S (fun b=>w.heap.size<=b) (fun _=>none) [] 0 w w:=
    { below := mw.refl _ _
      fC:=fun b hb=>hb
      ch:=hS
      sup:=fun id u h=>by cases h
      inj:=fun id dQ B bT u ev b h=>by cases h
      dB:=fun id B h=>by cases h }
  refine (hf.2.2 S _ w _ w gv dZ ak (fun j ah=>(mj j ah).mono (dX.refl _ _) (fun b h _=>(tb b).2 h) (fun _ _ h=>h))).mono ?_
  rintro e aE ⟨v,bm,he,aT,a1,_⟩
  refine ⟨v,he,aT.below.AD,a1.mono (dX.refl _ _) (fun b h _=>h.1) (fun id u hu=>?_)⟩
  have:=(aT.sup id u hu).1;omega
def dR (m:Nat->Nat):V->V
 | .own id=>.own (m id)
 | .ptr id i s j=>.ptr (m id) i s j
 | .agg cs=>.agg (gF cs)
 | .b0 cs=>.b0 (gF cs)
 | .gi f cs=>.gi f (gF cs)
 | v=>v
where gF:List V->List V
 | []=>[]
 | c :: cs=>dR m c :: gF cs
theorem jK {m:Nat->Nat}:∀ (cs:List V),(dR.gF m cs).length=cs.length
 | []=>rfl
 | c :: cs=>by simp only[dR.gF,List.length_cons,jK cs]
theorem mY {m:Nat->Nat}:∀ {cs:List V} {j:Nat},j<cs.length->bx (dR.gF m cs) j=dR m (bx cs j)
 | [],j,h=>by simp at h
 | c :: cs,0,_=>rfl
 | c :: cs,j+1,h=>by
  have:=mY (m:=m) (cs:=cs) (j:=j) (by simpa using h)
  simpa[bx,dR.gF] using this
def lu (m:Nat->Nat):aY->aY
 | .box t cs=>.box t (dR.gF m cs)
 | .jG e s l=>.jG e s (l.map (dR.gF m))
 | B=>B
theorem ye {m:Nat->Nat} {l:List (List V)} {i:Nat} (h:i<l.length):bH (l.map (dR.gF m)) i=dR.gF m (bH l i):=by
 unfold bH
 rw[List.getD_eq_getElem?_getD,List.getD_eq_getElem?_getD,List.getElem?_map,List.getElem?_eq_getElem h]
 rfl
theorem mZ {m:Nat->Nat} {B:aY}:(lu m B).owns=B.owns:=by cases B <;> rfl
def h9 (m:Nat->Nat):List (Nat×Option aY)->List (Nat×Option aY)
 | []=>[]
 | (id,B) :: r=>(m id,B.map (lu m)) :: h9 m r
def iq:List Nat->List (Nat×Option aY)
 | []=>[]
 | i :: r=>(i,none) :: iq r
theorem FR:∀ (M:List Nat) (h:List (Nat×Option aY)) (id:Nat),bd (iq M++h) id=if id ∈ M then none else bd h id
 | [],h,id=>by simp[iq]
 | i :: r,h,id=>by
  simp only[iq,List.cons_append,ea,FR r h id,List.mem_cons]
  by_cases e:i=id
  ·subst e;simp
  ·have lo:¬ id=i:=fun h=>e h.symm
   simp[e,lo]
theorem LS {m:Nat->Nat} {bL:Nat}:∀ (h:List (Nat×Option aY)) (H:List (Nat×Option aY)) (x:Nat),(∀ i,i<bL->m i≠x)->(∀ p ∈ h,p.1<bL)->bd (h9 m h++H) x=bd H x
 | [],H,x,_,_=>rfl
 | (id,B) :: r,H,x,U,ag=>by
  simp only[h9,List.cons_append,ea]
  rw[if_neg (U id (ag (id,B) (List.mem_cons_self ..)))]
  exact LS r H x U (fun p aw=>ag p (List.mem_cons_of_mem _ aw))
theorem LU {m:Nat->Nat} {bL:Nat} (Bt:∀ i j,i<bL->j<bL->m i=m j->i=j):∀ (h:List (Nat×Option aY)) (H:List (Nat×Option aY)) (i:Nat),i<bL->(∀ p ∈ h,p.1<bL)->bd H (m i)=none->bd (h9 m h++H) (m i)=(bd h i).map (lu m)
 | [],H,i,_,_,hn=>by simp[h9,bd,hn]
 | (id,B) :: r,H,i,hi,ag,hn=>by
  simp only[h9,List.cons_append,ea]
  by_cases e:id=i
  ·subst e;simp
  ·rw[if_neg (fun h=>e (Bt _ _ (ag (id,B) (List.mem_cons_self ..)) hi h)),if_neg e]
   exact LU Bt r H i hi (fun p aw=>ag p (List.mem_cons_of_mem _ aw)) hn
theorem FT {ρ bm:Nat->Option Value} {S hN:Nat->Prop} {w:World} {m:Nat->Nat} (hS:∀ b,S b->b<w.heap.size->hN b) (e7:∀ id u,ρ (m id)=some u->bm id=some u):∀ {v:V} {u:Value},cC ρ S w (dR m v) u->cC bm hN w v u:=by
 intro v u h
 generalize U:dR m v=x at h
 induction h generalizing v with
 | @pure y u h=>
  have hv:v=y:=by
   cases h <;> cases v <;> simp only[dR] at U <;> first|exact U|cases U
  subst hv
  exact .pure (h.mono (dX.refl _ _) hS)
 | own h=>cases v <;> simp only[dR] at U <;> first|(injection U with U;subst U;exact .own (e7 _ _ h))|cases U
 | ptr h hb=>cases v <;> simp only[dR] at U <;> first|(injection U with I J av bl;subst I J av bl;exact .ptr (e7 _ _ h) hb)|cases U
 | e9 us pt hc hr=>
  cases v <;> simp only[dR] at U <;> first|(injection U with U;subst U;exact .e9 us (fun h=>hS _ (pt h) (pq (hc 0 h))) hc (fun j ah=>(hr j ah).mono (dX.refl _ _) hS))|cases U
 | agg hn h cf=>
  cases v <;> simp only[dR] at U <;> first|(injection U with U;subst U;rw[jK] at hn;exact .agg hn (fun j ah=>cf j (by rw[jK];exact ah) (mY ah).symm))|cases U
 | b0 hn h cf=>
  cases v <;> simp only[dR] at U <;> first|(injection U with U;subst U;rw[jK] at hn;exact .b0 hn (fun j ah=>cf j (by rw[jK];exact ah) (mY ah).symm))|cases U
 | gi hn h cf=>
  cases v <;> simp only[dR] at U <;> first|(injection U with I U;subst I U;rw[jK] at hn;exact .gi hn (fun j ah=>cf j (by rw[jK];exact ah) (mY ah).symm))|cases U
 | any u=>cases v <;> simp only[dR] at U <;> first|exact .any u|cases U
 | gl=>cases v <;> simp only[dR] at U <;> first|exact .gl|cases U
theorem vh {ρ bm:Nat->Option Value} {S hN:Nat->Prop} {w:World} {m:Nat->Nat} (hS:∀ b,S b->b<w.heap.size->hN b) (e7:∀ id u,ρ id=some u->bm (m id)=some u) {v:V} {u:Value} (h:cC ρ S w v u):cC bm hN w (dR m v) u:=by
 induction h with
 | @pure y u h=>
  have hv:dR m y=y:=by cases h <;> rfl
  rw[hv]
  exact .pure (h.mono (dX.refl _ _) hS)
 | own h=>exact .own (e7 _ _ h)
 | ptr h hb=>exact .ptr (e7 _ _ h) hb
 | e9 us pt hc hr=>exact .e9 us (fun h=>hS _ (pt h) (pq (hc 0 h))) hc (fun j ah=>(hr j ah).mono (dX.refl _ _) hS)
 | agg hn h cf=>exact .agg (by rw[jK];exact hn) (fun j ah=>by rw[jK] at ah;rw[mY ah];exact cf j ah)
 | b0 hn h cf=>exact .b0 (by rw[jK];exact hn) (fun j ah=>by rw[jK] at ah;rw[mY ah];exact cf j ah)
 | gi hn h cf=>exact .gi (by rw[jK];exact hn) (fun j ah=>by rw[jK] at ah;rw[mY ah];exact cf j ah)
 | any u=>exact .any u
 | gl=>exact .gl
def cd (L:List Nat) (D:Nat) (i:Nat):Nat:=L.getD i D
def jL:List Nat->Bool
 | []=>true
 | a :: l=>!mX l a && jL l
theorem vi:∀ {l:List Nat} {a:Nat},a ∈ l->mX l a=true
 | [],a,h=>by cases h
 | b :: l,a,h=>by
  simp only[mX,Bool.or_eq_true]
  rcases List.mem_cons.1 h with rfl|h
  ·exact .inl (Nat.beq_refl _)
  ·exact .inr (vi h)
theorem tx {l:List Nat} {i:Nat} (h:i<l.length):l.getD i 0 ∈ l:=by rw[List.getD_eq_getElem?_getD,List.getElem?_eq_getElem h];exact List.getElem_mem h
theorem LV:∀ {l:List Nat},jL l=true -> ∀ i j,i<l.length->j<l.length->l.getD i 0=l.getD j 0->i=j
 | [],_,i,j,hi,_,_=>by simp at hi
 | a :: l,h,i,j,hi,ah,he=>by
  simp only[jL,Bool.and_eq_true,Bool.not_eq_true'] at h
  rcases i with _|i
  ·rcases j with _|j
   ·rfl
   ·exfalso
    have hm:a ∈ l:=by
     have:=tx (l:=l) (i:=j) jD
     have e:a=l.getD j 0:=by simpa using he
     rw[e];exact this
    rw[vi hm] at h
    exact Bool.noConfusion h.1
  ·rcases j with _|j
   ·exfalso
    have hm:a ∈ l:=by
     have:=tx (l:=l) (i:=i) (by simpa using hi)
     have e:l.getD i 0=a:=by simpa using he
     rw[<- e];exact this
    rw[vi hm] at h
    exact Bool.noConfusion h.1
   ·rw[LV h.2 i j (by simpa using hi) jD (by simpa using he)]
theorem LW {L:List Nat} {D:Nat} (h:jL L=true) {i j:Nat} (hi:i<L.length) (ah:j<L.length) (he:cd L D i=cd L D j):i=j:=by
 unfold cd at he
 refine LV h i j hi ah ?_
 rw[List.getD_eq_getElem?_getD,List.getElem?_eq_getElem hi] at he ⊢
 rw[List.getD_eq_getElem?_getD,List.getElem?_eq_getElem ah] at he ⊢
 exact he
theorem TT {M V:List Nat} {D i:Nat} (h:i<M.length):cd (M++V) D i=M.getD i 0:=by
 unfold cd
 rw[List.getD_eq_getElem?_getD,List.getD_eq_getElem?_getD,List.getElem?_append_left h,List.getElem?_eq_getElem h];rfl
theorem Bu {M V:List Nat} {D i:Nat} (h:M.length<=i) (J:i<M.length+V.length):cd (M++V) D i=V.getD (i - M.length) 0:=by
 unfold cd
 rw[List.getD_eq_getElem?_getD,List.getD_eq_getElem?_getD,List.getElem?_append_right h,List.getElem?_eq_getElem (by omega)];rfl
theorem TU {L:List Nat} {D i:Nat} (h:L.length<=i):cd L D i=D:=by
 unfold cd
 rw[List.getD_eq_getElem?_getD,List.getElem?_eq_none h];rfl
theorem LX:∀ {M V:List Nat},jL (M++V)=true -> ∀ x,x ∈ M->x ∈ V->False
 | [],V,_,x,h,_=>by cases h
 | a :: M,V,h,x,U,hv=>by
  simp only[List.cons_append,jL,Bool.and_eq_true,Bool.not_eq_true'] at h
  rcases List.mem_cons.1 U with rfl|U
  ·rw[vi (List.mem_append_right _ hv)] at h;exact Bool.noConfusion h.1
  ·exact LX h.2 x U hv
theorem LY:∀ {M V:List Nat},jL (M++V)=true->jL V=true
 | [],_,h=>h
 | a :: M,V,h=>by
  simp only[List.cons_append,jL,Bool.and_eq_true] at h
  exact LY h.2
def yf:List Nat->Nat->Nat
 | [],_=>0
 | a :: l,x=>bif Nat.beq a x then 0 else yf l x+1
theorem LZ:∀ {l:List Nat},jL l=true -> ∀ i,i<l.length->yf l (l.getD i 0)=i
 | [],_,i,hi=>by simp at hi
 | a :: l,h,0,_=>by simp[yf]
 | a :: l,h,i+1,hi=>by
  have eO:=h
  simp only[jL,Bool.and_eq_true,Bool.not_eq_true'] at eO
  have e:(a :: l).getD (i+1) 0=l.getD i 0:=by simp
  have cj:i<l.length:=by simpa using hi
  rw[e]
  unfold yf
  have c9:Nat.beq a (l.getD i 0)=false:=by
   cases hb:Nat.beq a (l.getD i 0) with
   | false=>rfl
   | true=>
    have:=Nat.eq_of_beq_eq_true hb
    rw[vi (by rw[this];exact tx cj)] at eO
    exact absurd eO.1 (by simp)
  rw[c9,LZ eO.2 i cj];rfl
theorem Bv:∀ {l:List Nat} {a:Nat},mX l a=true->a ∈ l
 | [],a,h=>by cases h
 | b :: l,a,h=>by
  simp only[mX,Bool.or_eq_true] at h
  rcases h with h|h
  ·rw[Nat.eq_of_beq_eq_true h];exact List.mem_cons_self ..
  ·exact List.mem_cons_of_mem _ (Bv h)
def na (m:Nat->Nat) (fx:Nat) (heap:List (Nat×Option aY)):List (Nat×Option aY)->Prop
 | []=>True
 | (id,none) :: r=>na m fx heap r
 | (id,some B) :: r=>(Nat.blt id fx=true/\bd heap (m id)=some (lu m B))/\na m fx heap r
theorem FU {m:Nat->Nat} {fx:Nat} {heap:List (Nat×Option aY)}:∀ {e:List (Nat×Option aY)},na m fx heap e -> ∀ id B,bd e id=some B->id<fx/\bd heap (m id)=some (lu m B)
 | [],_,t,v,h=>by simp[bd] at h
 | (s,none) :: r,hc,t,v,h=>by
  rw[ea] at h
  split at h
  ·cases h
  ·exact FU (e:=r) hc t v h
 | (s,some u) :: r,hc,t,v,h=>by
  rw[ea] at h
  split at h
  ·rename_i e;subst e;injection h with h;subst h;exact⟨Nat.le_of_ble_eq_true hc.1.1,hc.1.2⟩
  ·exact FU (e:=r) hc.2 t v h
theorem TV {m:Nat->Nat} {t:TypeId} {cs:List V}:lu m (.box t cs) = .box t (dR.gF m cs):=rfl
def yg (w:World) (ρ:Nat->Option Value) (af:List (Nat×Option aY)) (m:Nat->Nat) (b:Nat):Prop:=w.heap.size<=b \/ ∃ id B u,bd af id=some B/\B.owns=true/\ρ (m id)=some u/\dY u=some b
def vj (F:Nat->Prop) (w:World) (ρ:Nat->Option Value) (heap af:List (Nat×Option aY)) (m:Nat->Nat) (b:Nat):Prop:=bC F ρ heap b\/yg w ρ af m b
def r7 (ρ:Nat->Option Value) (fx:Nat) (m:Nat->Nat) (i:Nat):Option Value:=if i<fx then ρ (m i) else none
theorem yh {ρ:Nat->Option Value} {fx:Nat} {m:Nat->Nat} {i:Nat} {u:Value} (h:r7 ρ fx m i=some u):i<fx/\ρ (m i)=some u:=by
 unfold r7 at h
 split at h
 ·exact⟨by assumption,h⟩
 ·cases h
theorem FV {ρ:Nat->Option Value} {fx:Nat} {m:Nat->Nat} {i:Nat} (h:i<fx):r7 ρ fx m i=ρ (m i):=if_pos h
section
variable {F base:Nat->Prop} {ρ:Nat->Option Value} {heap af:List (Nat×Option aY)} {N D:Nat} {w0 w:World} {M V:List Nat}
theorem L0 (hh:∀ id B,bd af id=some B->id<M.length/\bd heap (cd (M++V) D id)=some (lu (cd (M++V) D) B)) {b:Nat} (h:bC F ρ heap b):bC (vj F w ρ heap af (cd (M++V) D)) (r7 ρ M.length (cd (M++V) D)) af b:=
 ⟨.inl h,fun id B u aB aa hu=>h.2 _ (lu (cd (M++V) D) B) u (hh id B aB).2 (by rw[mZ];exact aa) (yh hu).2⟩
theorem FW (k1:∀ v,v ∈ V->ρ v=none) (mc:ρ D=none) {id:Nat} {u:Value} (hu:ρ (cd (M++V) D id)=some u):r7 ρ M.length (cd (M++V) D) id=some u:=by
 by_cases hi:id<M.length
 ·rw[FV hi];exact hu
 ·exfalso
  by_cases J:id<M.length+V.length
  ·rw[Bu (by omega) J,k1 _ (tx (by omega))] at hu;cases hu
  ·rw[TU (by rw[List.length_append];omega),mc] at hu;cases hu
theorem TW (ak:en F base ρ heap N w0 w) (jd:jL (M++V)=true) (k1:∀ v,v ∈ V->ρ v=none) (mc:ρ D=none) (hh:∀ id B,bd af id=some B->id<M.length/\bd heap (cd (M++V) D id)=some (lu (cd (M++V) D) B)) :
  en (vj F w ρ heap af (cd (M++V) D)) (yg w ρ af (cd (M++V) D)) (r7 ρ M.length (cd (M++V) D)) af M.length w w:=by
 have hS:∀ b,bC F ρ heap b->b<w.heap.size->bC (vj F w ρ heap af (cd (M++V) D)) (r7 ρ M.length (cd (M++V) D)) af b:=fun b h _=>L0 hh h
 refine ⟨⟨mw.refl _ _,fun b hb=>.inl hb,fun id u hu=>⟨(yh hu).1,(ak.sup _ u (yh hu).2).2⟩,fun id dQ B bT u ev b aB cJ aa eJ hu ec hb dl=>?_,fun id B aB=>?_⟩,fun b hb=>.inr hb⟩
 ·have:=ak.inj _ _ _ _ _ _ b (hh id B aB).2 (hh dQ bT cJ).2 (by rw[mZ];exact aa) (by rw[mZ];exact eJ) (yh hu).2 (yh ec).2 hb dl
  exact LW jd (by rw[List.length_append];have:=(hh id B aB).1;omega) (by rw[List.length_append];have:=(hh dQ bT cJ).1;omega) this
 ·obtain ⟨cj,hb⟩:=hh id B aB
  have fw:=ak.dB _ _ hb
  have e:=FV (ρ:=ρ) (m:=cd (M++V) D) cj
  cases B with
  | box t cs=>
   rw[TV] at fw
   obtain ⟨b,us,aT,a1,bz,cW,gA⟩:=fw
   rw[jK] at cW gA
   refine ⟨b,us,by rw[e];exact aT,.inr ⟨id,_,_,aB,rfl,aT,rfl⟩,bz,cW,fun j ah=>⟨?_,(gA j ah).2⟩⟩
   have:=(gA j ah).1
   rw[mY ah] at this
   exact FT hS (fun i u hu=>FW k1 mc hu) this
  | row ty s l=>
   obtain ⟨oU,v,xs,aT,⟨a1,yi⟩,bz,cW⟩:=fw
   exact⟨oU,v,xs,by rw[e];exact aT,⟨a1,fun b hb=>.inr ⟨id,_,_,aB,rfl,aT,hb⟩⟩,bz,fun i j hi ah=>by
    obtain ⟨u,hu,aw,aa⟩:=cW i j hi ah
    exact⟨u,hu,aw.mono (dX.refl _ _) hS,aa⟩⟩
  | gb l=>
   obtain ⟨v,aT,a1,bz⟩:=fw
   exact⟨v,by rw[e];exact aT,a1.mono (dX.refl _ _) hS,bz⟩
  | map q es=>
   obtain ⟨b,cn,clock,aT,a1,bz⟩:=fw
   exact⟨b,cn,clock,by rw[e];exact aT,.inr ⟨id,_,_,aB,rfl,aT,rfl⟩,bz⟩
  | obj o=>
   obtain ⟨b,aT,a1,bz⟩:=fw
   exact⟨b,by rw[e];exact aT,.inr ⟨id,_,_,aB,rfl,aT,rfl⟩,bz⟩
  | mQ be ln=>
   obtain ⟨b,cap,dp,iY,aT,a1,bz⟩:=fw
   exact⟨b,cap,dp,iY,by rw[e];exact aT,.inr ⟨id,_,_,aB,rfl,aT,rfl⟩,bz⟩
  | jG ty s l=>
   obtain ⟨oU,v,xs,aT,⟨a1,yi⟩,bz,cW⟩:=fw
   rw[List.length_map] at a1 bz cW
   have hf:∀ i,i<l.length->bH (l.map (dR.gF (cd (M++V) D))) i=dR.gF (cd (M++V) D) (bH l i):=fun i hi=>ye hi
   have l8:∀ i,i<l.length->(bH l i).length=s:=fun i hi=>by have:=bz i hi;rwa [hf i hi,jK] at this
   exact⟨oU,v,xs,by rw[e];exact aT,⟨a1,fun b hb=>.inr ⟨id,_,_,aB,rfl,aT,hb⟩⟩,l8,fun i j hi ah=>by
    obtain ⟨u,hu,aw,aa⟩:=cW i j hi ah
    rw[hf i hi,mY (by rw[l8 i hi];exact ah)] at aw
    exact⟨u,hu,FT hS (fun i u hu=>FW k1 mc hu) aw,aa⟩⟩
  | jX q es=>
   obtain ⟨b,cn,clock,aT,a1,bz⟩:=fw
   exact⟨b,cn,clock,by rw[e];exact aT,hS b a1 (Array.getElem?_eq_some_iff.1 bz.1).1,bz⟩
  | iter left dp=>
   obtain ⟨r,b,cn,clock,since,seen,aS,aT,a1,bz,cW,gA⟩:=fw
   exact⟨r,b,cn,clock,since,seen,aS,by rw[e];exact aT,.inr ⟨id,_,_,aB,rfl,aT,rfl⟩,bz,hS b cW (Array.getElem?_eq_some_iff.1 gA.1).1,gA⟩
def nb (ρ bm:Nat->Option Value) (fx:Nat) (V:List Nat) (id:Nat):Option Value:=if mX V id=true then bm (fx+yf V id) else ρ id
theorem Bw {ρ bm:Nat->Option Value} {fx:Nat} {V:List Nat} {id:Nat} (h:id ∉ V):nb ρ bm fx V id=ρ id:=if_neg (fun hm=>h (Bv hm))
theorem TX {I:List (Nat×Option aY)} {bL nc:Nat} {bm:Nat->Option Value} {aE:World} (ak:en F base ρ heap N w0 w) (jd:jL (M++V)=true) (k1:∀ v,v ∈ V->ρ v=none) (yj:∀ v,v ∈ V->v<nc) (yk:N<=nc) (mc:ρ D=none)
  (hh:∀ id B,bd af id=some B->id<M.length/\bd heap (cd (M++V) D id)=some (lu (cd (M++V) D) B)) (ag:bL=M.length+V.length) (jr:∀ p ∈ I,p.1<bL)
  (fX:en (vj F w ρ heap af (cd (M++V) D)) (yg w ρ af (cd (M++V) D)) bm I bL w aE) (TY:∀ id,id<M.length->bm id=r7 ρ M.length (cd (M++V) D) id) :
  en F base (nb ρ bm M.length V) (h9 (cd (M++V) D) I++(iq M++heap)) nc w0 aE /\
  (∀ b,bC F ρ heap b->b<w.heap.size->bC F (nb ρ bm M.length V) (h9 (cd (M++V) D) I++(iq M++heap)) b) /\
  (∀ b,bC (vj F w ρ heap af (cd (M++V) D)) bm I b->b<aE.heap.size->bC F (nb ρ bm M.length V) (h9 (cd (M++V) D) I++(iq M++heap)) b)/\dX (bC F ρ heap) w aE /\
  (∀ id u,bm id=some u->nb ρ bm M.length V (cd (M++V) D id)=some u)/\(∀ id u,ρ id=some u->nb ρ bm M.length V id=some u):=by
 have hlen:(M++V).length=bL:=by rw[List.length_append,ag]
 have Bt:∀ i j,i<bL->j<bL->cd (M++V) D i=cd (M++V) D j->i=j:=fun i j hi ah h=>LW jd (by omega) (by omega) h
 have FX:∀ id u,ρ id=some u->id ∉ V:=fun id u hu hv=>by rw[k1 id hv] at hu;cases hu
 have L1:∀ i,i<M.length->cd (M++V) D i ∈ M:=fun i hi=>by rw[TT hi];exact tx hi
 have od:∀ i,i<bL->nb ρ bm M.length V (cd (M++V) D i)=bm i:=fun i hi=>by
  by_cases aq:i<M.length
  ·rw[Bw (fun hv=>LX jd _ (L1 i aq) hv),TY i aq,FV aq]
  ·have hv:cd (M++V) D i ∈ V:=by rw[Bu (by omega) (by omega)];exact tx (by omega)
   unfold nb
   rw[if_pos (vi hv),Bu (by omega) (by omega),LZ (LY jd) _ (by omega)]
   congr 1;omega
 have mU:∀ id B,bd (h9 (cd (M++V) D) I++(iq M++heap)) id=some B->(∃ i bT,i<bL/\id=cd (M++V) D i/\bd I i=some bT /\ B=lu (cd (M++V) D) bT)\/((∀ i,i<bL->cd (M++V) D i≠id)/\id ∉ M/\bd heap id=some B):=fun id B aB=>by
  by_cases U:∃ i,i<bL/\cd (M++V) D i=id
  ·obtain ⟨i,hi,rfl⟩:=U
   left
   have hn:bd (iq M++heap) (cd (M++V) D i)=none:=by
    rw[FR]
    by_cases aq:i<M.length
    ·rw[if_pos (L1 i aq)]
    ·split
     ·rfl
     ·cases aj:bd heap (cd (M++V) D i) with
      | none=>rfl
      | some X=>
       obtain ⟨u,hu⟩:=ak.oM aj
       exact absurd (by rw[Bu (by omega) (by omega)];exact tx (by omega)) (FX _ u hu)
   rw[LU Bt I _ i hi jr hn] at aB
   cases aj:bd I i with
   | none=>rw[aj] at aB;cases aB
   | some bT=>rw[aj] at aB;injection aB with aB;exact⟨i,bT,hi,rfl,aj,aB.symm⟩
  ·right
   have p6:∀ i,i<bL->cd (M++V) D i≠id:=fun i hi he=>U ⟨i,hi,he⟩
   rw[LS I _ id p6 jr,FR] at aB
   split at aB
   ·cases aB
   ·exact⟨p6,by assumption,aB⟩
 have fC:∀ b,yg w ρ af (cd (M++V) D) b->base b:=fun b hb=>by
  rcases hb with hb | ⟨id,B,u,aB,aa,hu,gP⟩
  ·exact ak.fC b hb
  ·exact(ak.owned (hh id B aB).2 (by rw[mZ];exact aa) hu gP).1
 have Bx:∀ id B u b,(∀ i,i<bL->cd (M++V) D i≠id)->bd heap id=some B->B.owns=true->ρ id=some u->dY u=some b->b<w.heap.size /\ ¬ yg w ρ af (cd (M++V) D) b:=fun id B u b c9 aB aa hu gP=>by
  have cj:=(ak.owned aB aa hu gP).2
  refine ⟨cj,fun hc=>?_⟩
  rcases hc with hc | ⟨dQ,bT,ev,cJ,eJ,ec,TZ⟩
  ·omega
  ·have:=ak.inj _ _ _ _ _ _ b (hh dQ bT cJ).2 aB (by rw[mZ];exact eJ) aa ec hu TZ gP
   exact c9 dQ (by have:=(hh dQ bT cJ).1;omega) this
 have yl:∀ id B,bd heap id=some B->nb ρ bm M.length V id=ρ id:=fun id B aB=>by
  obtain ⟨u,hu⟩:=ak.oM aB
  exact Bw (FX id u hu)
 have DO:∀ b,bC F ρ heap b->b<w.heap.size->bC F (nb ρ bm M.length V) (h9 (cd (M++V) D) I++(iq M++heap)) b:=fun b h cj=>by
  refine ⟨h.1,fun id B u aB aa hu gP=>?_⟩
  rcases mU id B aB with⟨i,bT,hi,rfl,aj,rfl⟩ | ⟨c9,_,aj⟩
  ·rw[od i hi] at hu
   rw[mZ] at aa
   rcases (fX.owned aj aa hu gP).1 with hc | ⟨dQ,T0,wE,FY,Ay,uZ,nk⟩
   ·omega
   ·exact h.2 _ _ _ (hh dQ T0 FY).2 (by rw[mZ];exact Ay) uZ nk
  ·rw[yl id B aj] at hu
   exact h.2 id B u aj aa hu gP
 have nG:∀ b,bC (vj F w ρ heap af (cd (M++V) D)) bm I b->b<aE.heap.size->bC F (nb ρ bm M.length V) (h9 (cd (M++V) D) I++(iq M++heap)) b:=fun b h cj=>by
  refine ⟨?_,fun id B u aB aa hu gP=>?_⟩
  ·rcases h.1 with I|I
   ·exact I.1
   ·exact ak.ch b (fC b I)
  ·rcases mU id B aB with⟨i,bT,hi,rfl,aj,rfl⟩ | ⟨c9,_,aj⟩
   ·rw[od i hi] at hu
    rw[mZ] at aa
    exact h.2 i bT u aj aa hu gP
   ·rw[yl id B aj] at hu
    rcases h.1 with I|I
    ·exact I.2 id B u aj aa hu gP
    ·exact(Bx id B u b c9 aj aa hu gP).2 I
 have eV:dX (bC F ρ heap) w aE:=fun b h cj=>fX.below.block b cj (fun hc=>by
  rcases hc with hc | ⟨id,B,u,aB,aa,hu,gP⟩
  ·omega
  ·exact h.2 _ _ _ (hh id B aB).2 (by rw[mZ];exact aa) hu gP)
 have qM:∀ id u,bm id=some u->nb ρ bm M.length V (cd (M++V) D id)=some u:=fun id u hu=>by rw[od id (fX.sup _ _ hu).1];exact hu
 have L2:∀ id u,ρ id=some u->nb ρ bm M.length V id=some u:=fun id u hu=>by rw[Bw (FX id u hu)];exact hu
 refine ⟨⟨⟨?_,fun b hb=>ak.fC b (Nat.le_trans fX.below.size hb),?_,?_,?_⟩,ak.ch⟩,DO,nG,eV,qM,L2⟩
 ·exact ak.below.trans ⟨fX.below.os,fX.below.tape,fX.below.output,fX.below.size,fun k ag hb=>fX.below.block k ag (fun hc=>hb (fC k hc))⟩
 ·intro id u hu
  unfold nb at hu
  split at hu
  ·rename_i hm
   exact⟨yj _ (Bv hm),(fX.sup _ _ hu).2⟩
  ·exact⟨Nat.lt_of_lt_of_le (ak.sup _ _ hu).1 yk,(ak.sup _ _ hu).2⟩
 ·intro id dQ B bT u ev b aB cJ aa eJ hu ec hb dl
  rcases mU id B aB with⟨i,X,hi,rfl,aj,rfl⟩ | ⟨c9,T1,aj⟩
  ·rw[od i hi] at hu
   rw[mZ] at aa
   rcases mU dQ bT cJ with⟨AW,T2,By,rfl,oV,rfl⟩ | ⟨L3,_,oV⟩
   ·rw[od AW By] at ec
    rw[mZ] at eJ
    rw[fX.inj _ _ _ _ _ _ b aj oV aa eJ hu ec hb dl]
   ·exfalso
    rw[yl dQ bT oV] at ec
    exact(Bx dQ bT ev b L3 oV eJ ec dl).2 (fX.owned aj aa hu hb).1
  ·rw[yl id B aj] at hu
   rcases mU dQ bT cJ with⟨AW,T2,By,rfl,oV,rfl⟩ | ⟨L3,_,oV⟩
   ·exfalso
    rw[od AW By] at ec
    rw[mZ] at eJ
    exact(Bx id B u b c9 aj aa hu hb).2 (fX.owned oV eJ ec dl).1
   ·rw[yl dQ bT oV] at ec
    exact ak.inj _ _ _ _ _ _ b aj oV aa eJ hu ec hb dl
 ·intro id B aB
  rcases mU id B aB with⟨i,X,hi,rfl,aj,rfl⟩ | ⟨c9,T1,aj⟩
  ·have fw:=fX.dB i X aj
   have e:=od i hi
   cases X with
   | box t cs=>
    obtain ⟨b,us,aT,a1,bz,cW,gA⟩:=fw
    exact⟨b,us,by rw[e];exact aT,fC b a1,bz,by rw[jK];exact cW,fun j ah=>by
     rw[jK] at ah
     rw[mY ah]
     exact⟨vh nG qM (gA j ah).1,(gA j ah).2⟩⟩
   | row ty s l=>
    obtain ⟨oU,v,xs,aT,⟨a1,yi⟩,bz,cW⟩:=fw
    exact⟨oU,v,xs,by rw[e];exact aT,⟨a1,fun b hb=>fC b (yi b hb)⟩,bz,fun i j hi ah=>by
     obtain ⟨u,hu,aw,aa⟩:=cW i j hi ah
     exact⟨u,hu,aw.mono (dX.refl _ _) nG,aa⟩⟩
   | gb l=>
    obtain ⟨v,aT,a1,bz⟩:=fw
    exact⟨v,by rw[e];exact aT,a1.mono (dX.refl _ _) nG,bz⟩
   | map q es=>
    obtain ⟨b,cn,clock,aT,a1,bz⟩:=fw
    exact⟨b,cn,clock,by rw[e];exact aT,fC b a1,bz⟩
   | obj o=>
    obtain ⟨b,aT,a1,bz⟩:=fw
    exact⟨b,by rw[e];exact aT,fC b a1,bz⟩
   | mQ be ln=>
    obtain ⟨b,cap,dp,iY,aT,a1,bz⟩:=fw
    exact⟨b,cap,dp,iY,by rw[e];exact aT,fC b a1,bz⟩
   | jG ty s l=>
    obtain ⟨oU,v,xs,aT,⟨a1,yi⟩,bz,cW⟩:=fw
    refine ⟨oU,v,xs,by rw[e];exact aT,⟨by rw[List.length_map];exact a1,fun b hb=>fC b (yi b hb)⟩,fun k ag=>?_,fun k j ag ah=>?_⟩
    ·rw[List.length_map] at ag
     rw[ye ag,jK];exact bz k ag
    ·rw[List.length_map] at ag
     obtain ⟨u,hu,aw,aa⟩:=cW k j ag ah
     rw[ye ag,mY (by rw[bz k ag];exact ah)]
     exact⟨u,hu,vh nG qM aw,aa⟩
   | jX q es=>
    obtain ⟨b,cn,clock,aT,a1,bz⟩:=fw
    exact⟨b,cn,clock,by rw[e];exact aT,nG b a1 (Array.getElem?_eq_some_iff.1 bz.1).1,bz⟩
   | iter left dp=>
    obtain ⟨r,b,cn,clock,since,seen,aS,aT,a1,bz,cW,gA⟩:=fw
    exact⟨r,b,cn,clock,since,seen,aS,by rw[e];exact aT,fC r a1,bz,nG b cW (Array.getElem?_eq_some_iff.1 gA.1).1,gA⟩
  ·refine (ak.dB id B aj).mono eV DO L2 (fun aa u b hu hb cj=>?_)
   exact fX.below.block b cj (Bx id B u b c9 aj aa hu hb).2
end
theorem L4 {o:Oper} {st:ba} {f:FuncId} {vs cc:List V} {r:V} {af I:List (Nat×Option aY)} {bL nc D:Nat} (M V:List Nat) (hf:cU P f cc af M.length r I bL) (aL:lR st.ad o.dst=true)
  (hw:dI vs (dR.gF (cd (M++V) D) cc)) (jd:jL (M++V)=true) (hh:na (cd (M++V) D) M.length st.heap af) (ag:bL=M.length+V.length) (jr:I.all (fun p=>Nat.blt p.1 bL)=true) (yj:∀ v,v ∈ V->v<nc) (yk:st.next<=nc)
  {F base:Nat->Prop} {w0:World} {ρ:Nat->Option Value} {a:Act} {w:World} (ak:en F base ρ st.heap st.next w0 w) (ay:eR ρ (bC F ρ st.heap) w st.ad st.env a) (k1:∀ v,v ∈ V->ρ v=none) (mc:ρ D=none)
  {gv:Array Value} (kE:(execOp a.eval o).run P w = .ok (.enter f gv) w) (dZ:gv.size=vs.length) (aN:∀ j,j<vs.length->cC ρ (bC F ρ st.heap) w (bx vs j) (gv.getD j undef)) :
  o.wp P a w (fun gQ aE=>∃ bm,en F base bm (h9 (cd (M++V) D) I++(iq M++st.heap)) nc w0 aE /\ eR bm (bC F bm (h9 (cd (M++V) D) I++(iq M++st.heap))) aE st.ad (st.put o.dst (dR (cd (M++V) D) r)).env gQ /\ (∀ id u,ρ id=some u->bm id=some u) /\ ∀ id,id ∉ V->bm id=ρ id) (fun _ _ _=>False):=by
 have hh:=FU hh
 have jr:∀ p ∈ I,p.1<bL:=fun p aw=>Nat.le_of_ble_eq_true (List.all_eq_true.1 jr p aw)
 have aq:=dI.rel (ρ:=ρ) (S:=bC F ρ st.heap) (w:=w) hw
 rw[jK] at aq
 unfold Oper.wp
 rw[kE,Oper.upon_enter]
 refine (hf.2.2 _ _ w _ w gv (by rw[dZ,aq.1]) (TW ak jd k1 mc hh) (fun j ah=>?_)).mono ?_
 ·have h:=aq.2 j (by omega) (aN j (by omega))
  rw[mY ah] at h
  exact FT (fun b h _=>L0 hh h) (fun i u hu=>FW k1 mc hu) h
 ·rintro e aE ⟨v,bm,rfl,aT,a1,bz⟩
  obtain ⟨dD,c7,fb,iS,cT,ps⟩:=TX ak jd k1 yj yk mc hh ag jr aT bz
  have r8:=ay.mono iS c7 ps
  refine ⟨_,dD,?_,ps,fun id hid=>Bw hid⟩
  have hv:=vh fb cT a1
  cases hd:o.dst with
  | none=>exact r8
  | some d=>
   rw[hd] at aL
   exact r8.put (Nat.le_of_ble_eq_true aL) hv
theorem L5 {o:Oper} {st:ba} {f:FuncId} {xs:Array Operand} {ts:Array TypeId} {vs cc:List V} {r:V} {af I:List (Nat×Option aY)} {bL nc D:Nat} (M V:List Nat) (hf:cU P f cc af M.length r I bL) (aa:o.op = .call { callee:=.value (.func f),args:=xs,argTypes:=ts }) (aL:lR st.ad o.dst=true)
  (U:gw st.env xs.toList=some vs) (hw:dI vs (dR.gF (cd (M++V) D) cc)) (jd:jL (M++V)=true) (hh:na (cd (M++V) D) M.length st.heap af) (ag:bL=M.length+V.length) (jr:I.all (fun p=>Nat.blt p.1 bL)=true) (yj:∀ v,v ∈ V->v<nc) (yk:st.next<=nc)
  {F base:Nat->Prop} {w0:World} {ρ:Nat->Option Value} {a:Act} {w:World} (ak:en F base ρ st.heap st.next w0 w) (ay:eR ρ (bC F ρ st.heap) w st.ad st.env a) (k1:∀ v,v ∈ V->ρ v=none) (mc:ρ D=none) :
  o.wp P a w (fun gQ aE=>∃ bm,en F base bm (h9 (cd (M++V) D) I++(iq M++st.heap)) nc w0 aE /\ eR bm (bC F bm (h9 (cd (M++V) D) I++(iq M++st.heap))) aE st.ad (st.put o.dst (dR (cd (M++V) D) r)).env gQ /\ (∀ id u,ρ id=some u->bm id=some u) /\ ∀ id,id ∉ V->bm id=ρ id) (fun _ _ _=>False):=by
 obtain ⟨aH,aN⟩:=uU ay U
 refine L4 M V hf aL hw jd hh ag jr yj yk ak ay k1 mc (AV aa hf.1 a w) (by rw[aH];simp) (fun j ah=>?_)
 have h:=aN j ah
 have bS:(xs.toList.map a.eval).getD j undef=(xs.map a.eval).getD j undef:=by
  rw[List.getD_eq_getElem?_getD,Array.getD_eq_getD_getElem?,<- Array.toList_map]
  simp
 rwa [bS] at h
def iK (N:Nat):Nat->List Nat
 | 0=>[]
 | n+1=>N :: iK (N+1) n
theorem tz:∀ {n N v:Nat},v ∈ iK N n->N<=v/\v<N+n
 | 0,N,v,h=>by cases h
 | n+1,N,v,h=>by
  rcases List.mem_cons.1 h with rfl|h
  ·omega
  ·have:=tz h;omega
theorem ym {ρ:Nat->Option Value} {n id:Nat} (ap:∀ id u,ρ id=some u->id<n/\u.oneCell' = true) (hid:n<=id):ρ id=none:=by
 cases hr:ρ id with
 | none=>rfl
 | some u=>have:=(ap id u hr).1;omega
theorem L6 {o:Oper} {st:ba} {f:FuncId} {xs:Array Operand} {ts:Array TypeId} {vs cc:List V} {r:V} {af I:List (Nat×Option aY)} {bL:Nat} (M:List Nat) (n:Nat) (hf:cU P f cc af M.length r I bL) (aa:o.op = .call { callee:=.value (.func f),args:=xs,argTypes:=ts }) (aL:lR st.ad o.dst=true)
  (U:gw st.env xs.toList=some vs) (hw:dI vs (dR.gF (cd (M++iK st.next n) (st.next+n)) cc)) (jd:jL (M++iK st.next n)=true) (hh:na (cd (M++iK st.next n) (st.next+n)) M.length st.heap af) (ag:bL=M.length+(iK st.next n).length) (jr:I.all (fun p=>Nat.blt p.1 bL)=true) (hn0:n0<=st.next) :
  GStep P n0 o st { env:=(st.put o.dst (dR (cd (M++iK st.next n) (st.next+n)) r)).env,heap:=h9 (cd (M++iK st.next n) (st.next+n)) I++(iq M++st.heap),next:=st.next+n,ad:=st.ad }:=fun F base w0 ρ a w ak ay=>by
 refine rH ?_ (L5 (nc:=st.next+n) M (iK st.next n) hf aa aL U hw jd hh ag jr (fun v hv=>(tz hv).2) (by omega) ak ay (fun v hv=>ym ak.sup (tz hv).1) (ym ak.sup (by omega)))
 rintro gQ aE ⟨bm,aT,a1,bz,cW⟩
 exact⟨bm,aT,a1,bz,fun id hid=>cW id (fun hv=>by have:=(tz hv).1;omega)⟩
theorem T3 {ρ:Nat->Option Value} {S:Nat->Prop} {w:World} {f:FuncId} {cs:List V} {u:Value} (h:cC ρ S w (.gi f cs) u):∃ us,u = .func (.func f) #[] us/\us.size=cs.length /\ ∀ j,j<cs.length->cC ρ S w (bx cs j) (us.getD j undef):=by
 cases h with
 | pure h=>cases h
 | gi hn h=>exact⟨_,rfl,hn,h⟩
theorem T4 {o:Oper} {t:Tmp} {f:FuncId} {xs:Array Operand} {ts:Array TypeId} {us:Array Value} (aa:o.op = .call { callee:=.value (.tmp t),args:=xs,argTypes:=ts }) (hf:rP P f=true) {a:Act} (ht:a.tmps.getD t undef = .func (.func f) #[] us) (w:World) :
  (execOp a.eval o).run P w = .ok (.enter f (xs.map a.eval++us)) w:=by
 unfold rP at hf
 cases iD:P.funcs[f]? with
 | none=>rw[iD] at hf;cases hf
 | some fn=>
  rw[iD] at hf
  simp only[Bool.and_eq_true,Bool.not_eq_true'] at hf
  obtain ⟨I,J⟩:=hf
  obtain ⟨c,hc⟩:=Option.isSome_iff_exists.1 I
  unfold execOp;rw[aa]
  have E6 : fn.name ≠ "runtime.NumGoroutine" := fun e => by rw [e] at J; simp at J
  have he:a.eval (.tmp t) = .func (.func f) #[] us:=ht
  simp[resolve,he,Deferred.ofValue,invoke,callFunc,Sem.run_bind,Sem.run_pure,program,Sem.run,iD,hc,E6]
theorem T5 {o:Oper} {st:ba} {t:Tmp} {f:FuncId} {xs:Array Operand} {ts:Array TypeId} {vs cc cs:List V} {r:V} {af I:List (Nat×Option aY)} {bL:Nat} (M:List Nat) (n:Nat) (hf:cU P f cc af M.length r I bL) (aa:o.op = .call { callee:=.value (.tmp t),args:=xs,argTypes:=ts }) (ht:cG st.env t=some (.gi f cs)) (aL:lR st.ad o.dst=true)
  (U:gw st.env xs.toList=some vs) (hw:dI (vs++cs) (dR.gF (cd (M++iK st.next n) (st.next+n)) cc)) (jd:jL (M++iK st.next n)=true) (hh:na (cd (M++iK st.next n) (st.next+n)) M.length st.heap af) (ag:bL=M.length+(iK st.next n).length) (jr:I.all (fun p=>Nat.blt p.1 bL)=true) (hn0:n0<=st.next) :
  GStep P n0 o st { env:=(st.put o.dst (dR (cd (M++iK st.next n) (st.next+n)) r)).env,heap:=h9 (cd (M++iK st.next n) (st.next+n)) I++(iq M++st.heap),next:=st.next+n,ad:=st.ad }:=fun F base w0 ρ a w ak ay=>by
 obtain ⟨aH,aN⟩:=uU ay U
 obtain ⟨us,aT,a1,bz⟩:=T3 (ay.slot t _ ht)
 refine rH ?_ (L4 (nc:=st.next+n) (vs:=vs++cs) M (iK st.next n) hf aL hw jd hh ag jr (fun v hv=>(tz hv).2) (by omega) ak ay (fun v hv=>ym ak.sup (tz hv).1) (ym ak.sup (by omega)) (T4 aa hf.1 aT w) (by simp[aH,a1]) (fun j ah=>?_))
 ·rintro gQ aE ⟨bm,aT,a1,bz,cW⟩
  exact⟨bm,aT,a1,bz,fun id hid=>cW id (fun hv=>by have:=(tz hv).1;omega)⟩
 ·have dZ:(xs.map a.eval).size=vs.length:=by rw[aH];simp
  by_cases cj:j<vs.length
  ·have h:=aN j cj
   have bS:(xs.toList.map a.eval).getD j undef=(xs.map a.eval++us).getD j undef:=by
    rw[List.getD_eq_getElem?_getD,Array.getD_eq_getD_getElem?,Array.getElem?_append_left (by omega),<- Array.toList_map]
    simp
   have eK:bx (vs++cs) j=bx vs j:=by unfold bx;rw[List.getD_eq_getElem?_getD,List.getD_eq_getElem?_getD,List.getElem?_append_left cj]
   rw[bS] at h
   rwa [eK]
  ·rw[List.length_append] at ah
   have h:=bz (j - vs.length) (by omega)
   have bS:us.getD (j - vs.length) undef=(xs.map a.eval++us).getD j undef:=by
    rw[Array.getD_eq_getD_getElem?,Array.getD_eq_getD_getElem?,Array.getElem?_append_right (by omega),dZ]
   have eK:bx (vs++cs) j=bx cs (j - vs.length):=by unfold bx;rw[List.getD_eq_getElem?_getD,List.getD_eq_getElem?_getD,List.getElem?_append_right (by omega)]
   rw[bS] at h
   rwa [eK]
theorem T6 {G:List Nat} {o:Oper} {st:ba} {f:FuncId} {xs:Array Operand} {vs:List V} (aa:o.op = .makeFunc (.func f) #[] xs) (U:gw st.env xs.toList=some vs):bw P G o st (.gi f vs):=
 hs fun F base w0 ρ a w ak ay=>by
  obtain ⟨aH,aN⟩:=uU ay U
  refine ⟨.func (.func f) #[] (xs.map a.eval),.gi (by rw[aH];simp) (fun j ah=>?_),fun aE=>?_⟩
  ·have h:=aN j ah
   have bS:(xs.toList.map a.eval).getD j undef=(xs.map a.eval).getD j undef:=by
    rw[List.getD_eq_getElem?_getD,Array.getD_eq_getD_getElem?,<- Array.toList_map]
    simp
   rwa [bS] at h
  ·unfold execOp;rw[aa];simp[Instr.makeFunc,Sem.run_bind,Sem.run_pure]
theorem L7 {k:Nat} {o:Oper} {st:ba} {f:FuncId} {xs:Array Operand} {ts:Array TypeId} {vs cc:List V} {r:V} {af I:List (Nat×Option aY)} {bL:Nat} (M:List Nat) (hf:cU P f cc af M.length r I bL) (aa:o.op = .call { callee:=.value (.func f),args:=xs,argTypes:=ts }) (aL:lR st.ad o.dst=true)
  (U:gw st.env xs.toList=some vs) (hw:dI vs (dR.gF (cd (M++[k]) st.next) cc)) (jd:jL (M++[k])=true) (hh:na (cd (M++[k]) st.next) M.length st.heap af) (ag:bL=M.length+1) (jr:I.all (fun p=>Nat.blt p.1 bL)=true) :
  ko P k o st { env:=(st.put o.dst (dR (cd (M++[k]) st.next) r)).env,heap:=h9 (cd (M++[k]) st.next) I++(iq M++st.heap),next:=st.next,ad:=st.ad }:=fun F base w0 ρ a w ak ay eH aJ=>by
 refine rH ?_ (L5 (nc:=st.next) M [k] hf aa aL U hw jd hh ag jr (fun v hv=>by rw[List.mem_singleton.1 hv];exact aJ) (Nat.le_refl _) ak ay (fun v hv=>by rw[List.mem_singleton.1 hv];exact eH) (ym ak.sup (Nat.le_refl _)))
 rintro gQ aE ⟨bm,aT,a1,bz,cW⟩
 exact⟨bm,aT,a1,bz,fun id hid=>cW id (fun hv=>hid (List.mem_singleton.1 hv))⟩
end
theorem r9 {a D:Nat} {l:List Nat}:cd (a :: l) D 0=a:=rfl
theorem tA {a b D:Nat} {l:List Nat}:cd (a :: b :: l) D 1=b:=rfl
theorem tB {a b c D:Nat} {l:List Nat}:cd (a :: b :: c :: l) D 2=c:=rfl
theorem tC {a b c d D:Nat} {l:List Nat}:cd (a :: b :: c :: d :: l) D 3=d:=rfl
theorem tD {a b c d e D:Nat} {l:List Nat}:cd (a :: b :: c :: d :: e :: l) D 4=e:=rfl
theorem tE {a b c d e f D:Nat} {l:List Nat}:cd (a :: b :: c :: d :: e :: f :: l) D 5=f:=rfl
theorem tF {a b c d e f g D:Nat} {l:List Nat}:cd (a :: b :: c :: d :: e :: f :: g :: l) D 6=g:=rfl
theorem tG {a b c d e f g h D:Nat} {l:List Nat}:cd (a :: b :: c :: d :: e :: f :: g :: h :: l) D 7=h:=rfl
section
variable {P:Program} {o:Oper} {n0:Nat} {ops:List Oper} {rest:List Oper} {env:List (Nat×V)} {heap:List (Nat×Option aY)} {next ad:Nat} {Q:ba->Prop}
theorem eL {f:FuncId} {xs:Array Operand} {ts:Array TypeId} {vs cc:List V} {r fT:V} {af I cS:List (Nat×Option aY)} {bL d next':Nat} {L:List Nat} (M:List Nat) (hf:cU P f cc af M.length r I bL) (aa:o.op = .call { callee:=.value (.func f),args:=xs,argTypes:=ts }:=by rfl)
  (aj:bW env ops o.guard=some true:=by rfl) (hd:o.dst=some d:=by rfl) (aL:Nat.blt d ad=true:=by rfl) (U:gw env xs.toList=some vs:=by rfl)
  (dx:M++iK next (bL - M.length)=L:=by(simp only[iK,List.length_cons,List.length_nil,Nat.reduceSub,Nat.reduceAdd,List.cons_append,List.nil_append,List.append_nil];rfl))
  (hn:next+(bL - M.length)=next':=by(simp only[List.length_cons,List.length_nil,Nat.reduceSub,Nat.reduceAdd,Nat.add_zero];rfl))
  (hw : dI vs (dR.gF (cd L next') cc) := by ((repeat' (first | exact dI.nil | refine dI.cons ?_ ?_ | exact cZ.refl _ | exact cZ.nil | refine cZ.agg ?_ | refine cZ.b0 ?_)); first | done | fail "args"))
  (jd : jL L = true := by rfl) (hh : na (cd L next') M.length heap af := by ((repeat' (first | exact True.intro | exact rfl | refine And.intro ?_ ?_)); first | done | fail "mem")) (ag : bL = M.length + (iK next (bL - M.length)).length := by rfl) (jr : I.all (fun p => Nat.blt p.1 bL) = true := by rfl) (hn0 : Nat.ble n0 next = true := by rfl)
  (hr:dR (cd L next') r=fT:=by first|(simp only[dR,dR.gF,r9,tA,tB,tC,tD,tE,tF,tG];rfl)|rfl)
  (ak:h9 (cd L next') I++(iq M++heap)=cS:=by(simp only[h9,lu,dR,dR.gF,iq,Option.map_some,Option.map_none,List.cons_append,List.nil_append,r9,tA,tB,tC,tD,tE,tF,tG];rfl))
  (h:a8 P n0 ops.toArray rest ⟨(d,fT) :: env,cS,next',ad⟩ Q):a8 P n0 ops.toArray (o :: rest) ⟨env,heap,next,ad⟩ Q:=by
 subst dx hn hr ak
 have ap:=L6 (n0:=n0) (st:=⟨env,heap,next,ad⟩) M (bL - M.length) hf aa nz U hw jd hh ag jr (Nat.le_of_ble_eq_true hn0)
 rw[hd] at ap
 exact jI aj ap h
theorem o3 {t:Tmp} {cs:List V} {f:FuncId} {xs:Array Operand} {ts:Array TypeId} {vs cc:List V} {r fT:V} {af I cS:List (Nat×Option aY)} {bL d next':Nat} {L:List Nat} (M:List Nat) (hf:cU P f cc af M.length r I bL) (aa:o.op = .call { callee:=.value (.tmp t),args:=xs,argTypes:=ts }:=by rfl)
  (ht:cG env t=some (.gi f cs):=by rfl) (aj:bW env ops o.guard=some true:=by rfl) (hd:o.dst=some d:=by rfl) (aL:Nat.blt d ad=true:=by rfl) (U:gw env xs.toList=some vs:=by rfl)
  (dx:M++iK next (bL - M.length)=L:=by(simp only[iK,List.length_cons,List.length_nil,Nat.reduceSub,Nat.reduceAdd,List.cons_append,List.nil_append,List.append_nil];rfl))
  (hn:next+(bL - M.length)=next':=by(simp only[List.length_cons,List.length_nil,Nat.reduceSub,Nat.reduceAdd,Nat.add_zero];rfl))
  (hw : dI (vs ++ cs) (dR.gF (cd L next') cc) := by ((repeat' (first | exact dI.nil | refine dI.cons ?_ ?_ | exact cZ.refl _ | exact cZ.nil | refine cZ.agg ?_ | refine cZ.b0 ?_)); first | done | fail "args"))
  (jd : jL L = true := by rfl) (hh : na (cd L next') M.length heap af := by ((repeat' (first | exact True.intro | exact rfl | refine And.intro ?_ ?_)); first | done | fail "mem")) (ag : bL = M.length + (iK next (bL - M.length)).length := by rfl) (jr : I.all (fun p => Nat.blt p.1 bL) = true := by rfl) (hn0 : Nat.ble n0 next = true := by rfl)
  (hr:dR (cd L next') r=fT:=by first|(simp only[dR,dR.gF,r9,tA,tB,tC,tD,tE,tF,tG];rfl)|rfl)
  (ak:h9 (cd L next') I++(iq M++heap)=cS:=by(simp only[h9,lu,dR,dR.gF,iq,Option.map_some,Option.map_none,List.cons_append,List.nil_append,r9,tA,tB,tC,tD,tE,tF,tG];rfl))
  (h:a8 P n0 ops.toArray rest ⟨(d,fT) :: env,cS,next',ad⟩ Q):a8 P n0 ops.toArray (o :: rest) ⟨env,heap,next,ad⟩ Q:=by
 subst dx hn hr ak
 have ap:=T5 (n0:=n0) (st:=⟨env,heap,next,ad⟩) M (bL - M.length) hf aa ht nz U hw jd hh ag jr (Nat.le_of_ble_eq_true hn0)
 rw[hd] at ap
 exact jI aj ap h
theorem yn {f:FuncId} {xs:Array Operand} {vs:List V} {d:Nat} (aa:o.op = .makeFunc (.func f) #[] xs:=by rfl) (U:gw env xs.toList=some vs:=by rfl) (aj:bW env ops o.guard=some true:=by rfl) (hd:o.dst=some d:=by rfl) (aL:Nat.blt d ad=true:=by rfl) (h:a8 P n0 ops.toArray rest ⟨(d,.gi f vs) :: env,heap,next,ad⟩ Q):a8 P n0 ops.toArray (o :: rest) ⟨env,heap,next,ad⟩ Q:=
 gS aj hd aL (T6 aa U) h
theorem eM {f:FuncId} {xs:Array Operand} {ts:Array TypeId} {vs cc:List V} {r:V} {af I cS:List (Nat×Option aY)} {bL next':Nat} {L:List Nat} (M:List Nat) (hf:cU P f cc af M.length r I bL) (aa:o.op = .call { callee:=.value (.func f),args:=xs,argTypes:=ts }:=by rfl)
  (aj:bW env ops o.guard=some true:=by rfl) (hd:o.dst=none:=by rfl) (U:gw env xs.toList=some vs:=by rfl)
  (dx:M++iK next (bL - M.length)=L:=by(simp only[iK,List.length_cons,List.length_nil,Nat.reduceSub,Nat.reduceAdd,List.cons_append,List.nil_append,List.append_nil];rfl))
  (hn:next+(bL - M.length)=next':=by(simp only[List.length_cons,List.length_nil,Nat.reduceSub,Nat.reduceAdd,Nat.add_zero];rfl))
  (hw : dI vs (dR.gF (cd L next') cc) := by ((repeat' (first | exact dI.nil | refine dI.cons ?_ ?_ | exact cZ.refl _ | exact cZ.nil | refine cZ.agg ?_ | refine cZ.b0 ?_)); first | done | fail "args"))
  (jd : jL L = true := by rfl) (hh : na (cd L next') M.length heap af := by ((repeat' (first | exact True.intro | exact rfl | refine And.intro ?_ ?_)); first | done | fail "mem")) (ag : bL = M.length + (iK next (bL - M.length)).length := by rfl) (jr : I.all (fun p => Nat.blt p.1 bL) = true := by rfl) (hn0 : Nat.ble n0 next = true := by rfl)
  (ak:h9 (cd L next') I++(iq M++heap)=cS:=by(simp only[h9,lu,dR,dR.gF,iq,Option.map_some,Option.map_none,List.cons_append,List.nil_append,r9,tA,tB,tC,tD,tE,tF,tG];rfl))
  (h:a8 P n0 ops.toArray rest ⟨env,cS,next',ad⟩ Q):a8 P n0 ops.toArray (o :: rest) ⟨env,heap,next,ad⟩ Q:=by
 subst dx hn ak
 have ap:=L6 (n0:=n0) (st:=⟨env,heap,next,ad⟩) M (bL - M.length) hf aa (by rw[hd];rfl) U hw jd hh ag jr (Nat.le_of_ble_eq_true hn0)
 rw[hd] at ap
 exact jI aj ap h
theorem yo {x:Operand} {t:TypeId} {l:List UInt8} {d:Nat} (aa:o.op = .call { callee:=.builtin .len,args:=#[x],argTypes:=#[t] }:=by rfl) (U:aI env x=some (.lit (.string (bZ l))):=by rfl)
  (ht:P.underlying t=some .string:=by rfl) (aj:bW env ops o.guard=some true:=by rfl) (hd:o.dst=some d:=by rfl) (aL:Nat.blt d ad=true:=by rfl) (h:a8 P n0 ops.toArray rest ⟨(d,.lit (.int .i64 l.length)) :: env,heap,next,ad⟩ Q):a8 P n0 ops.toArray (o :: rest) ⟨env,heap,next,ad⟩ Q:=by
 refine gS aj hd aL ?_ h
 have:=EV (P:=P) (G:=[]) (st:=⟨env,heap,next,ad⟩) aa U ht
 rw[tp] at this
 exact this
end
section
variable {P:Program} {o:Oper} {ad aA k bq:Nat} {ops:List Oper} {W:Nat->Nat->Bool} {rest:List Oper} {env:List (Nat×V)} {heap:List (Nat×Option aY)} {Q:ba->Prop}
theorem yp {x:Operand} {t:TypeId} {l:List UInt8} {d:Nat} (aa:o.op = .call { callee:=.builtin .len,args:=#[x],argTypes:=#[t] }:=by rfl) (U:aI (bA (looks ops o) env) x=some (.lit (.string (bZ l))):=by rfl)
  (ht:P.underlying t=some .string:=by rfl) (aj:bW (bA (looks ops o) env) ops o.guard=some true:=by rfl) (hd:o.dst=some d:=by rfl) (aL:Nat.blt d ad=true:=by rfl) (ag:k+1=bq:=by(simp only[Nat.reduceAdd];rfl)) (hb:Nat.ble aA k=true:=by rfl)
  (h:bk P ad aA ops W bq rest ((d,.lit (.int .i64 l.length)) :: env) heap Q):bk P ad aA ops W k (o :: rest) env heap Q:=by
 refine h7 aj hd aL hb ag (fun N=>?_) h
 have:=EV (P:=P) (G:=[]) (st:=⟨bA (looks ops o) env,[],N,ad⟩) aa U ht
 rw[tp] at this
 exact this
theorem kc {f:FuncId} {xs:Array Operand} {ts:Array TypeId} {vs cc:List V} {r fT:V} {e s d:Nat} {l:List (List V)} (hf:cU P f cc [] 0 r [(0,some (.row e s l))] 1) (aa:o.op = .call { callee:=.value (.func f),args:=xs,argTypes:=ts }:=by rfl)
  (aj:bW (bA (looks ops o) env) ops o.guard=some true:=by rfl) (hd:o.dst=some d:=by rfl) (aL:Nat.blt d ad=true:=by rfl) (U:gw (bA (looks ops o) env) xs.toList=some vs:=by rfl)
  (hw : ∀ N, dI vs (dR.gF (cd [k] N) cc) := by (intro N; (repeat' (first | exact dI.nil | refine dI.cons ?_ ?_ | exact cZ.refl _ | exact cZ.nil | refine cZ.agg ?_ | refine cZ.b0 ?_)); first | done | fail "args"))
  (hr:∀ N,dR (cd [k] N) r=fT:=by(intro N;simp only[dR,dR.gF,r9];rfl)) (ag:k+1=bq:=by(simp only[Nat.reduceAdd];rfl)) (dl:Nat.ble aA k=true:=by rfl)
  (h:bk P ad aA ops W bq rest ((d,fT) :: env) ((k,some (.row e s l)) :: heap) Q):bk P ad aA ops W k (o :: rest) env heap Q:=
 tt (Hn:=[]) (H:=[(k,some (.row e s l))]) aj hd ag dl (fun id B h=>by cases h) (fun id h=>.inl (rZ h)) (fun N gm cS ay ak=>by
  have:=L7 (k:=k) (st:=⟨gm,cS,N,ad⟩) [] hf aa nz (xF ay U) (by rw[List.nil_append];exact hw N) rfl True.intro rfl rfl
  rw[hd] at this
  rw[List.nil_append,hr N] at this
  exact this) h
end
theorem T7 {P:Program} {G:List Nat} {o:Oper} {st:ba} {T e N n:Nat} {x y:Operand} {cs:List V} {k:IntKind} {m:Int} (aa:o.op = .index T x y) (U:aI st.env x=some (.agg cs)) (ai:aI st.env y=some (.lit (.int k m)))
  (hm:m=(n:Int)) (aV:P.underlying T=some (.array N e)) (hn:n<N) (hc:n<cs.length) (bj:jH P e=some false) (ap:dt P e=some 1):bw P G o st (bx cs n):=
 hs fun F base w0 ρ a w ak ay=>by
  subst hm
  obtain ⟨us,aH,aN,bS⟩:=x3 (c0 ay U)
  refine ⟨us.getD n undef,bS n hc,fun aE=>?_⟩
  unfold execOp;rw[aa];simp only[];rw[aH,ff (c0 ay ai)]
  have hu:us[n]? = some (us.getD n undef):=by rw[Array.getD_eq_getD_getElem?,Array.getElem?_eq_getElem (by omega)];rfl
  generalize us.getD n undef=u at hu
  simp[Instr.index,asIntOf,run_underlying aV,Sem.run_bind,Sem.run_pure,hn,qx ap,part,w9 bj,hu]
section
variable {P:Program} {o:Oper} {n0:Nat} {ops:List Oper} {rest:List Oper} {env:List (Nat×V)} {heap:List (Nat×Option aY)} {next ad:Nat} {Q:ba->Prop}
theorem eC {T e N n d:Nat} {x y:Operand} {cs:List V} {k:IntKind} {m:Int} {v:V} (aa:o.op = .index T x y:=by rfl) (U:aI env x=some (.agg cs):=by rfl) (ai:aI env y=some (.lit (.int k m)):=by rfl)
  (hm:m=(n:Int):=by first|exact uv|exact uw|exact ux|exact uy|rfl) (aV:P.underlying T=some (.array N e):=by rfl) (hn:Nat.blt n N=true:=by rfl) (hv:cs[n]? = some v:=by rfl) (bj:jH P e=some false:=by rfl) (ap:dt P e=some 1:=by rfl)
  (aj:bW env ops o.guard=some true:=by rfl) (hd:o.dst=some d:=by rfl) (aL:Nat.blt d ad=true:=by rfl) (h:a8 P n0 ops.toArray rest ⟨(d,v) :: env,heap,next,ad⟩ Q):a8 P n0 ops.toArray (o :: rest) ⟨env,heap,next,ad⟩ Q:=by
 refine gS aj hd aL ?_ h
 have:=T7 (P:=P) (G:=[]) (st:=⟨env,heap,next,ad⟩) aa U ai hm aV (Nat.le_of_ble_eq_true hn) (List.getElem?_eq_some_iff.1 hv).1 bj ap
 have e:bx cs n=v:=by unfold bx;rw[List.getD_eq_getElem?_getD,hv];rfl
 rw[e] at this
 exact this
end
section
variable {P:Program} {o:Oper} {n0:Nat} {ops:List Oper} {rest:List Oper} {env:List (Nat×V)} {heap:List (Nat×Option aY)} {next ad:Nat} {Q:ba->Prop}
theorem rf {α:Type} [Inhabited α] {f:α->List V} {t e s d id lo dv:Nat} {x:Operand} {bJ hi:Option Operand} {l r:List α} {a b:Option Int} (m n:Nat) (bj:a.getD 0=(m:Int)) (hb:b.getD l.length=(n:Int)) (gx:m<=n) (hn:n<=l.length) (hr:(l.take n).drop m=r)
  (aa:o.op = .slice t x bJ hi none:=by rfl) (U:aI env x=some (.own id):=by rfl) (hh:bd heap id=some (.row lo dv (l.map f)):=by rfl) (eG:j3 env bJ=some a:=by rfl) (h8:j3 env hi=some b:=by rfl)
  (ht:P.underlying t=some (.slice e):=by rfl) (ap:dt P e=some s:=by rfl) (ij:∀ x,(f x).length=s:=by intro x;rfl)
  (aj:bW env ops o.guard=some true:=by rfl) (hd:o.dst=some d:=by rfl) (aL:Nat.blt d ad=true:=by rfl) (h:a8 P n0 ops.toArray rest ⟨(d,.ro (r.map f)) :: env,(id,some (.gb (l.map f))) :: heap,next,ad⟩ Q):a8 P n0 ops.toArray (o :: rest) ⟨env,heap,next,ad⟩ Q:=by
 refine TF (id:=id) hh ?_
 refine p5 (f:=f) (v:=.own id) m n bj hb gx hn hr aa U ?_ eG h8 ht ap ij aj hd aL h
 simp[r0,bd]
end
def L8:V->Option Nat
 | .own id=>some id
 | .agg cs=>FZ cs
 | _=>none
where FZ:List V->Option Nat
 | []=>none
 | c :: cs=>match L8 c with
  | some id=>some id
  | none=>FZ cs
section
variable {P:Program} {o:Oper} {n0:Nat} {ops:List Oper} {rest:List Oper} {env:List (Nat×V)} {heap:List (Nat×Option aY)} {next ad:Nat} {Q:ba->Prop}
theorem l6 {f:FuncId} {xs:Array Operand} {ts:Array TypeId} {vs cc:List V} {r:V} {d:Nat} (hf:Fn P f cc r) (aa:o.op = .call { callee:=.value (.func f),args:=xs,argTypes:=ts }:=by rfl) (aj:bW env ops o.guard=some true:=by rfl) (hd:o.dst=some d:=by rfl) (aL:Nat.blt d ad=true:=by rfl)
  (U:gw env xs.toList=some vs:=by rfl) (ap:gE.mz heap vs=some cc:=by rfl) (hr:pz r=true:=by rfl) (h:a8 P n0 ops.toArray rest ⟨(d,r) :: env,heap,next,ad⟩ Q):a8 P n0 ops.toArray (o :: rest) ⟨env,heap,next,ad⟩ Q:=by
 have:=KC (P:=P) (n0:=n0) (st:=⟨env,heap,next,ad⟩) aa nz U ap hf hr
 rw[hd] at this
 exact jI aj this h
end
section
variable {P:Program} {o:Oper} {ad aA k bq:Nat} {ops:List Oper} {W:Nat->Nat->Bool} {rest:List Oper} {env:List (Nat×V)} {heap:List (Nat×Option aY)} {Q:ba->Prop}
theorem l7 {f:FuncId} {xs:Array Operand} {ts:Array TypeId} {vs cc:List V} {r:V} {d id:Nat} {B:aY} (hf:Fn P f cc r) (aa:o.op = .call { callee:=.value (.func f),args:=xs,argTypes:=ts }:=by rfl) (aj:bW (bA (looks ops o) env) ops o.guard=some true:=by rfl) (hd:o.dst=some d:=by rfl) (aL:Nat.blt d ad=true:=by rfl)
  (U:gw (bA (looks ops o) env) xs.toList=some vs:=by rfl) (hid:L8.FZ vs=some id:=by rfl) (aB:bd heap id=some B:=by rfl) (ap:gE.mz [(id,some B)] vs=some cc:=by rfl) (hr:pz r=true:=by rfl) (ag:k+1=bq:=by(simp only[Nat.reduceAdd];rfl)) (hb:Nat.ble aA k=true:=by rfl) (hv:kp ops W aA (k - aA) id=true:=by kernel_rfl) (h:bk P ad aA ops W bq rest ((d,r) :: env) heap Q):bk P ad aA ops W k (o :: rest) env heap Q:=
 Ti hf aa aj hd aL U aB ap hr ag hb hv h
end
section
variable {P:Program} {st:ba}
theorem T8 {fn:Func} {n0 bL:Nat} {r fT v:V} {I:List (Nat×Option aY)} {e:Exit} {L:List (Nat×Nat)} (he:e = .ret\/e = .normal:=by first|exact .inl rfl|exact .inr rfl) (hv:rS P st fn.results.toList=some v:=by rfl) (eI:qL (LL n0 ⟨[(0,v)],st.heap,0,0⟩ ⟨[(0,r)],I,bL,0⟩) L:=by repeat'(first|exact qL.nil|apply qL.cons)) (dx:r5 n0 bL L=true:=by rfl) (ap:hW (hg L) st.heap v=some fT:=by rfl) (hr:cZ fT r) (hh:r6 L st.heap I):LR P fn n0 r I bL e st:=
 ⟨he,v,fT,L,hv,dx,ap,hr,hh⟩
end
end
section
open Go.RowKit Go.ChangeMaps
def oW:Option IntKind->TypeDesc
 | some q=>.int q
 | none=>.string
def nn:Value->Value->Bool
 | .int _ a,.int _ b=>a == b
 | .string a,.string b=>a == b
 | _,_=>false
def hK (k:Value):List (Value×Value)->Option Value
 | []=>none
 | p :: r=>bif nn k p.1 then some p.2 else hK k r
def nJ (k v:Value):List (Value×Value)->List (Value×Value)
 | []=>[(k,v)]
 | p :: r=>bif nn k p.1 then(k,v) :: r else p :: nJ k v r
theorem qN {q:Option IntKind} {v:Value} (h:h6 q v=true):(∃ k a,q=some k/\v = .int k a)\/(∃ s,q=none/\v = .string s):=by
 cases q with
 | none=>cases v <;> simp[h6] at h;exact .inr ⟨_,rfl,rfl⟩
 | some q=>cases v <;> simp[h6] at h;subst h;exact .inl ⟨_,_,rfl,rfl⟩
theorem T9 {q:Option IntKind} {k p:Value} (ag:h6 q k=true) (aw:h6 q p=true):Instr.sameNow (oW q) k p=some (nn k p):=by
 rcases qN ag with⟨bL,a,rfl,rfl⟩ | ⟨s,rfl,rfl⟩
 ·rcases qN aw with⟨gT,b,e,rfl⟩ | ⟨s,e,_⟩
  ·injection e with e;subst e
   simp[Instr.sameNow,oW,nn]
  ·cases e
 ·rcases qN aw with⟨gT,b,e,rfl⟩ | ⟨t,_,rfl⟩
  ·cases e
  ·simp[Instr.sameNow,oW,nn]
theorem Ua {q:Option IntKind} {k p:Value} (ag:h6 q k=true) (aw:h6 q p=true) (h:nn k p=true):p=k:=by
 rcases qN ag with⟨bL,a,rfl,rfl⟩ | ⟨s,rfl,rfl⟩
 ·rcases qN aw with⟨gT,b,e,rfl⟩ | ⟨s,e,_⟩
  ·injection e with e;subst e
   simp only[nn,beq_iff_eq] at h
   rw[h]
  ·cases e
 ·rcases qN aw with⟨gT,b,e,rfl⟩ | ⟨t,_,rfl⟩
  ·cases e
  ·simp only[nn,MapKept.bytes_beq] at h
   rw[h]
theorem Ub {q:Option IntKind} {k:Value} (ag:h6 q k=true):Instr.sameBits 10000 k k=true:=by
 rcases qN ag with⟨bL,a,rfl,rfl⟩ | ⟨s,rfl,rfl⟩
 ·simp[Instr.sameBits]
 ·simp[Instr.sameBits,(MapKept.bytes_beq s s).2 rfl]
theorem F0 {q:Option IntKind} {k v:Value} (ag:h6 q k=true):∀ (cn:List MapEntry) (i:Nat),(∀ e,e ∈ cn->h6 q e.key=true) ->
  (hK k (cn.map lm)=none/\Instr.findNow (oW q) k cn i=some none/\nJ k v (cn.map lm)=cn.map lm++[(k,v)]) \/
  ∃ n x e,cn[n]? = some e/\e.key=k/\hK k (cn.map lm)=some x/\Instr.findNow (oW q) k cn i=some (some (i+n,x))/\(cn.modify n fun e=>{ e with key:=k,val:=v }).map lm=nJ k v (cn.map lm)
 | [],i,_=>.inl ⟨rfl,rfl,rfl⟩
 | e :: cn,i,h=>by
  have he:=T9 ag (h e List.mem_cons_self)
  cases hb:nn k e.key with
  | true=>
   refine .inr ⟨0,e.val,e,rfl,Ua ag (h e List.mem_cons_self) hb,?_,?_,?_⟩
   ·simp only[List.map_cons,hK,hb,cond_true]
   ·simp only[Instr.findNow,he,hb]
    rfl
   ·simp only[List.map_cons,nJ,hb,cond_true]
    rfl
  | false=>
   rcases F0 (v:=v) ag cn (i+1) (fun e eO=>h e (List.mem_cons_of_mem _ eO)) with⟨I,J,av⟩ | ⟨n,x,lo,I,J,av,bl,dm⟩
   ·refine .inl ⟨?_,?_,?_⟩
    ·simp only[List.map_cons,hK,hb,cond_false];exact I
    ·simp only[Instr.findNow,he,hb];exact J
    ·simp only[List.map_cons,nJ,hb,cond_false,av,List.cons_append]
   ·refine .inr ⟨n+1,x,lo,by simpa using I,J,?_,?_,?_⟩
    ·simp only[List.map_cons,hK,hb,cond_false];exact av
    ·simp only[Instr.findNow,he,hb];rw[bl];congr 3;omega
    ·simp only[List.map_cons,nJ,hb,cond_false,List.modify_succ_cons]
     rw[dm]
theorem L9 {q:Option IntKind} {k v:Value} (ag:h6 q k=true) (hv:v.oneCell' = true):∀ (es:List (Value×Value)),(∀ p,p ∈ es->h6 q p.1=true/\p.2.oneCell' = true) -> ∀ p,p ∈ nJ k v es->h6 q p.1=true/\p.2.oneCell' = true
 | [],_,p,aw=>by
  simp only[nJ,List.mem_singleton] at aw
  subst aw;exact⟨ag,hv⟩
 | e :: es,h,p,aw=>by
  simp only[nJ] at aw
  cases hb:nn k e.1 with
  | true=>
   rw[hb] at aw
   rcases List.mem_cons.1 aw with rfl|aw
   ·exact⟨ag,hv⟩
   ·exact h p (List.mem_cons_of_mem _ aw)
  | false=>
   rw[hb] at aw
   rcases List.mem_cons.1 aw with rfl|aw
   ·exact h _ List.mem_cons_self
   ·exact L9 ag hv es (fun p aw=>h p (List.mem_cons_of_mem _ aw)) p aw
theorem run_checkKey {P:Program} {q:Option IntKind} {kt:TypeId} {k:Value} {b:Bool} (mD:P.underlying kt=some (oW q)) (ag:h6 q k=true) (w:World):(Instr.checkKey b 10000 kt k).run P w = .ok () w:=by
 unfold Instr.checkKey
 simp only[Sem.run_bind,run_underlying mD]
 rcases qN ag with⟨bL,a,rfl,rfl⟩ | ⟨s,rfl,rfl⟩ <;> rfl
section
variable {P:Program} {o:Oper} {n0:Nat} {st:ba} {G:List Nat}
theorem Uc {T kt et:TypeId} {q:Option IntKind} {b clock:Nat} {cn:Array MapEntry} {k z:Value} {ok:Bool} {w:World} (aV:P.underlying T=some (.map kt et)) (mD:P.underlying kt=some (oW q)) (h:w.heap[b]? = some (.map cn clock)) (ag:h6 q k=true)
  (F1:∀ e,e ∈ cn.toList->h6 q e.key=true) (bh:(zeroValue et).run P w = .ok z w) :
  (Instr.lookup T (.map (some b)) k ok).run P w = .ok (if ok then .tuple #[(hK k (cn.toList.map lm)).getD z,.bool (hK k (cn.toList.map lm)).isSome] else(hK k (cn.toList.map lm)).getD z) w:=by
 rcases F0 (v:=k) ag cn.toList 0 F1 with⟨I,J,_⟩ | ⟨n,x,e,_,_,I,J,_⟩
 ·cases ok <;> simp[Instr.lookup,Instr.findKey,run_underlying aV,run_underlying mD,MapKept.run_getObj_map h,run_checkKey mD ag,I,J,bh,Sem.run_bind,Sem.run_pure,Result.andThen]
 ·cases ok <;> simp[Instr.lookup,Instr.findKey,run_underlying aV,run_underlying mD,MapKept.run_getObj_map h,run_checkKey mD ag,I,J,bh,Sem.run_bind,Sem.run_pure,Result.andThen]
theorem Ma {k v:Value}:∀ {l:List MapEntry} (n:Nat),(l.modify n fun e=>{ e with key:=k,val:=v }).map (·.born)=l.map (·.born)
 | [],n=>by cases n <;> rfl
 | e :: l,0=>rfl
 | e :: l,n+1=>by simp only[List.modify_succ_cons,List.map_cons,Ma n]
theorem Ud {T kt et:TypeId} {q:Option IntKind} {b clock:Nat} {cn:Array MapEntry} {k v:Value} {w:World} (aV:P.underlying T=some (.map kt et)) (mD:P.underlying kt=some (oW q)) (h:w.heap[b]? = some (.map cn clock)) (ag:h6 q k=true)
  (F1:∀ e,e ∈ cn.toList->h6 q e.key=true) :
  ∃ tH vk,(Instr.mapUpdate T (.map (some b)) k v).run P w = .ok () (setBlock w b (.map tH vk))/\tH.toList.map lm=nJ k v (cn.toList.map lm)/\(w6 cn clock->w6 tH vk):=by
 rcases F0 (v:=v) ag cn.toList 0 F1 with⟨I,J,av⟩ | ⟨n,x,e,g1,g2,I,J,av⟩
 ·refine ⟨cn.push { key:=k,val:=v,born:=clock },clock+1,?_,?_⟩
  ·simp[Instr.mapUpdate,Instr.findKey,run_underlying aV,run_underlying mD,MapKept.run_getObj_map h,run_checkKey mD ag,I,J,Sem.run_bind,Sem.run_pure,Result.andThen,MapKept.run_setObj_map _ h,setBlock]
  ·refine ⟨by rw[av];simp,fun hb=>⟨?_,fun e he=>?_⟩⟩
   ·rw[Array.toList_push,List.map_append,List.nodup_append]
    refine ⟨hb.1,by simp,fun a bj b dl=>?_⟩
    obtain ⟨e,he,rfl⟩:=List.mem_map.1 bj
    have:=hb.2 e he
    simp at dl
    omega
   ·rw[Array.toList_push] at he
    rcases List.mem_append.1 he with he|he
    ·have:=hb.2 e he;omega
    ·rw[List.mem_singleton.1 he];exact Nat.lt_succ_self _
 ·have g3:cn[n]? = some e:=by rw[<- Array.getElem?_toList];exact g1
  refine ⟨cn.modify n fun e=>{ e with key:=k,val:=v },clock,?_,?_⟩
  ·simp[Instr.mapUpdate,Instr.findKey,Instr.keyThatStays,run_underlying aV,run_underlying mD,MapKept.run_getObj_map h,run_checkKey mD ag,I,J,g3,g2,Ub ag,Sem.run_bind,Sem.run_pure,Result.andThen,MapKept.run_setObj_map _ h,setBlock]
  ·refine ⟨by rw[Array.toList_modify];exact av,fun hb=>?_⟩
   have Mb:(cn.toList.modify n fun e=>{ e with key:=k,val:=v }).map (·.born)=cn.toList.map (·.born):=Ma n
   refine ⟨by rw[Array.toList_modify,Mb];exact hb.1,fun e he=>?_⟩
   rw[Array.toList_modify] at he
   have hm:e.born ∈ (cn.toList.modify n fun e=>{ e with key:=k,val:=v }).map (·.born):=List.mem_map.2 ⟨e,he,rfl⟩
   rw[Mb] at hm
   obtain ⟨lo,Ue,FJ⟩:=List.mem_map.1 hm
   rw[<- FJ];exact hb.2 lo Ue
theorem Uf {k T kt et d:Nat} (q:Option IntKind) (aa:o.op = .makeMap T none) (hd:o.dst=some d) (aL:Nat.blt d st.ad=true):ko P k o st (st.newAt k d (.own k) (.map q [])):=fun F base w0 ρ a w ak ay eH ag=>by
 refine my (u:=.map (some w.heap.size)) (aE:=w.alloc (.map #[] 0)) ?_ ?_
 ·unfold execOp;rw[aa]
  simp[Instr.makeMap,newObj,go_sem]
  rfl
 ·rw[hd]
  refine rJ ak ay eH ag (rK _ _) (fun _ b hb=>by simp only[dY,Option.some.injEq] at hb;omega) (Nat.le_of_ble_eq_true aL) rfl (fun S hS _ eV=>?_) (fun S=>.own (hx _ _ _))
  exact⟨w.heap.size,#[],0,hx _ _ _,ak.fC _ (Nat.le_refl _),heap_alloc_new _ _,rfl,⟨fun p aw=>(by cases aw),⟨List.nodup_nil,fun e he=>(by cases he)⟩⟩⟩
theorem Ug {T:TypeId} {m x y:Operand} (aa:o.op = .insert T m x y\/o.op = .mapUpdate T m x y) (a:Act) (w aE:World) (h:(Instr.mapUpdate T (a.eval m) (a.eval x) (a.eval y)).run P w = .ok () aE):(execOp a.eval o).run P w = .ok .skip aE:=by
 rcases aa with aa|aa <;> (unfold execOp;rw[aa];simp only[Sem.run_bind,h];rfl)
theorem Uh {T kt et id:TypeId} {m x y:Operand} {q:Option IntKind} {k v:Value} {es:List (Value×Value)} (aa:o.op = .insert T m x y\/o.op = .mapUpdate T m x y) (hd:o.dst=none) (hm:aI st.env m=some (.own id)) (hh:bd st.heap id=some (.map q es))
  (U:aI st.env x=some (.lit k)) (ai:aI st.env y=some (.lit v)) (aV:P.underlying T=some (.map kt et)) (mD:P.underlying kt=some (oW q)) (ag:h6 q k=true) :
  GStep P n0 o st { st with heap:=(id,some (.map q (nJ k v es))) :: st.heap }:=fun F base w0 ρ a w ak ay=>by
 have I:=mR (c0 ay hm)
 obtain ⟨b,cn,clock,aH,aN,bS,eK,iI,kn⟩:=ak.dB _ _ hh
 rw[I] at aH;injection aH with aH
 have Fh:=RU (c0 ay ai)
 obtain ⟨tH,vk,kE,Ui,Uj⟩:=Ud (P:=P) (w:=w) (v:=v) aV mD bS ag (fun e he=>by
  have:=(iI (lm e) DB).1
  exact this)
 have px:¬ bC F ρ st.heap b:=fun ap=>ap.2 id _ _ hh rfl (by rw[I,aH]) rfl
 refine E0 (aE:=setBlock w b (.map tH vk)) ?_ ?_
 ·refine Ug aa a w _ ?_
  rw[aH,ff (c0 ay U),ff (c0 ay ai)]
  exact kE
 ·rw[hd]
  have aj:w.grownBy (setBlock w b (.map tH vk)) (some b):=⟨rfl,rfl,rfl,by simp[setBlock],fun i _ hi=>heap_setBlock_other bS _ (fun e=>hi (by rw[e]))⟩
  obtain ⟨aT,a1,bz⟩:=ak.step (bm:=ρ) (cS:=(id,some (.map q (nJ k v es))) :: st.heap) (next':=st.next) id (some b) aj
   (fun k ag=>by injection ag with ag;subst ag;exact⟨aN,px⟩) (fun _ _ h=>h) (fun id u h=>ak.sup id u h)
   (fun i B c9 aB=>by
    rw[ea,if_neg (Ne.symm c9)] at aB
    refine ⟨aB,?_⟩
    obtain ⟨u,hu⟩:=ak.oM aB
    exact⟨u,hu,fun aa gO hb e=>by injection e with e;subst e;exact c9 (ak.inj i id B _ u _ b aB hh aa rfl hu (by rw[I,aH]) hb rfl)⟩)
   (fun B u gO aB aa hu hb=>by
    rw[I,aH] at hu;injection hu with hu;subst hu
    simp only[dY,Option.some.injEq] at hb;subst hb
    refine .inr ⟨px,fun i bT ev c9 cJ eJ ec dl=>?_⟩
    rw[ea,if_neg (Ne.symm c9)] at cJ
    exact c9 (ak.inj i id bT _ ev _ b cJ hh eJ rfl ec (by rw[I,aH]) dl rfl))
   (fun B aB hS eV=>by
    rw[ea,if_pos rfl] at aB;injection aB with aB;subst aB
    exact⟨b,tH,vk,by rw[I,aH],aN,heap_setBlock_same bS _,by rw[<- eK];exact Ui,L9 ag Fh es iI,Uj kn⟩)
  exact⟨ρ,aT,ay.mono a1 bz (fun _ _ h=>h),fun _ _ h=>h,fun _ _=>rfl⟩
theorem Mc {q:Option IntKind} {k x:Value}:∀ {es:List (Value×Value)},(∀ p,p ∈ es->h6 q p.1=true/\p.2.oneCell' = true)->hK k es=some x->x.oneCell' = true
 | [],_,h=>by cases h
 | e :: es,dm,h=>by
  simp only[hK] at h
  cases hb:nn k e.1 with
  | true=>rw[hb] at h;injection h with h;subst h;exact(dm _ List.mem_cons_self).2
  | false=>rw[hb] at h;exact Mc (fun p aw=>dm p (List.mem_cons_of_mem _ aw)) h
def yq (P:Program) (T:TypeId):Option Value:=
 match P.info? T with
 | some i=>match i.zero with
  | some z=>bif z.oneCell' then some z else none
  | none=>none
 | none=>none
theorem Uk {T:TypeId} {z:Value} (h:yq P T=some z):z.oneCell' = true /\ ∀ w,(zeroValue T).run P w = .ok z w:=by
 unfold yq at h
 cases hi:P.info? T with
 | none=>rw[hi] at h;cases h
 | some i=>
  rw[hi] at h
  simp only at h
  cases bh:i.zero with
  | none=>rw[bh] at h;cases h
  | some y=>
   rw[bh] at h
   simp only at h
   cases hb:y.oneCell' with
   | false=>rw[hb] at h;cases h
   | true=>
    rw[hb] at h
    injection h with h;subst h
    exact⟨hb,fun w=>by simp[zeroValue,typeInfo,hi,bh,Sem.run_bind,Sem.run_pure,program,Sem.run]⟩
theorem Qc {T kt et id:TypeId} {m x:Operand} {q:Option IntKind} {k z:Value} {ok:Bool} {es:List (Value×Value)} (aa:o.op = .lookup T m x ok) (hm:aI st.env m=some (.own id)) (hh:bd st.heap id=some (.map q es)) (jZ:pw id G=true)
  (U:aI st.env x=some (.lit k)) (aV:P.underlying T=some (.map kt et)) (mD:P.underlying kt=some (oW q)) (ag:h6 q k=true) (bh:yq P et=some z) :
  bw P G o st (if ok then .b0 [.lit ((hK k es).getD z),.lit (.bool (hK k es).isSome)] else .lit ((hK k es).getD z)):=fun F base w0 ρ a w ak ay dx=>by
 have I:=mR (c0 ay hm)
 obtain ⟨b,cn,clock,aH,aN,bS,eK,iI,_⟩:=ak.dB _ _ hh
 obtain ⟨Bi,z3⟩:=Uk bh
 have hr:∀ aE,Ext (uM ρ G) w aE -> (Instr.lookup T (a.eval m) (a.eval x) ok).run P aE = .ok (if ok then .tuple #[(hK k es).getD z,.bool (hK k es).isSome] else(hK k es).getD z) aE:=fun aE ka=>by
  have Ul:aE.heap[b]? = some (.map cn clock):=by
   rw[ka.block b (Array.getElem?_eq_some_iff.1 bS).1 (AJ ak dx jZ hh rfl aH rfl)];exact bS
  rw[I] at aH;injection aH with aH
  rw[aH,ff (c0 ay U)]
  have:=Uc (P:=P) (ok:=ok) aV mD Ul ag (fun e he=>(iI (lm e) DB).1) (z3 aE)
  rw[eK] at this
  exact this
 have Md:((hK k es).getD z).oneCell' = true:=by
  cases hc:hK k es with
  | none=>exact Bi
  | some x=>exact Mc iI hc
 refine ⟨if ok then .tuple #[(hK k es).getD z,.bool (hK k es).isSome] else(hK k es).getD z,?_,fun aE ka=>?_⟩
 ·cases ok
  ·exact .pure (.lit _ Md)
  ·refine .b0 rfl (fun j ah=>?_)
   match j,ah with
   | 0,_=>exact .pure (.lit _ Md)
   | 1,_=>exact .pure (.lit _ rfl)
 ·unfold execOp;rw[aa];simp only[Sem.run_bind,hr aE ka];rfl
def Me:TypeDesc->Option (Option IntKind)
 | .int q=>some (some q)
 | .string=>some none
 | _=>none
def tI (P:Program) (T:TypeId):Option (Option IntKind×TypeId):=
 match P.underlying T with
 | some (.map kt et)=>match P.underlying kt with
  | some d=>match Me d with
   | some q=>some (q,et)
   | none=>none
  | none=>none
 | _=>none
theorem Bz {T:TypeId} {q:Option IntKind} {et:TypeId} (h:tI P T=some (q,et)):∃ kt,P.underlying T=some (.map kt et)/\P.underlying kt=some (oW q):=by
 unfold tI at h
 split at h
 ·rename_i kt XD aV
  split at h
  ·rename_i d hd
   split at h
   ·rename_i eU hq
    injection h with h
    injection h with I J
    subst I J
    refine ⟨kt,aV,?_⟩
    rw[hd]
    cases d <;> simp[Me] at hq <;> subst hq <;> rfl
   ·cases h
  ·cases h
 ·cases h
section
variable {ops:List Oper} {rest:List Oper} {env:List (Nat×V)} {heap:List (Nat×Option aY)} {next ad:Nat} {Q:ba->Prop}
theorem yr {T et d:Nat} {q:Option IntKind} (aa:o.op = .makeMap T none:=by rfl) (hq:tI P T=some (q,et):=by rfl) (aj:bW env ops o.guard=some true:=by rfl) (hd:o.dst=some d:=by rfl) (aL:Nat.blt d ad=true:=by rfl) (hn0:Nat.ble n0 next=true:=by rfl)
  (h:a8 P n0 ops.toArray rest ⟨(d,.own next) :: env,(next,some (.map q [])) :: heap,next+1,ad⟩ Q):a8 P n0 ops.toArray (o :: rest) ⟨env,heap,next,ad⟩ Q:=
 jI aj (n5 (Nat.le_of_ble_eq_true hn0) (Uf (kt:=0) (et:=0) (T:=T) (st:={ env:=env,heap:=heap,next:=next+1,ad:=ad }) q aa hd aL)) h
theorem eD {T et id:Nat} {m x y:Operand} {q:Option IntKind} {k v:Value} {es:List (Value×Value)} (aa:o.op = .insert T m x y\/o.op = .mapUpdate T m x y:=by first|exact .inl rfl|exact .inr rfl) (hd:o.dst=none:=by rfl) (hm:aI env m=some (.own id):=by rfl) (hh:bd heap id=some (.map q es):=by rfl)
  (U:aI env x=some (.lit k):=by rfl) (ai:aI env y=some (.lit v):=by rfl) (hq:tI P T=some (q,et):=by rfl) (ag:h6 q k=true:=by rfl) (aj:bW env ops o.guard=some true:=by rfl)
  (h:a8 P n0 ops.toArray rest ⟨env,(id,some (.map q (nJ k v es))) :: heap,next,ad⟩ Q):a8 P n0 ops.toArray (o :: rest) ⟨env,heap,next,ad⟩ Q:=by
 obtain ⟨kt,I,J⟩:=Bz hq
 exact jI aj (Uh (st:=⟨env,heap,next,ad⟩) aa hd hm hh U ai I J ag) h
theorem sW {T et id d:Nat} {m x:Operand} {q:Option IntKind} {k z r:Value} {es:List (Value×Value)} (hr:(hK k es).getD z=r) (aa:o.op = .lookup T m x false:=by rfl) (hm:aI env m=some (.own id):=by rfl) (hh:bd heap id=some (.map q es):=by rfl)
  (U:aI env x=some (.lit k):=by rfl) (hq:tI P T=some (q,et):=by rfl) (ag:h6 q k=true:=by rfl) (bh:yq P et=some z:=by rfl) (aj:bW env ops o.guard=some true:=by rfl) (hd:o.dst=some d:=by rfl) (aL:Nat.blt d ad=true:=by rfl)
  (h:a8 P n0 ops.toArray rest ⟨(d,.lit r) :: env,heap,next,ad⟩ Q):a8 P n0 ops.toArray (o :: rest) ⟨env,heap,next,ad⟩ Q:=by
 obtain ⟨kt,I,J⟩:=Bz hq
 subst hr
 exact gS aj hd aL Iw h
theorem Oa {T et id d:Nat} {m x:Operand} {q:Option IntKind} {k z r:Value} {b:Bool} {es:List (Value×Value)} (hr:(hK k es).getD z=r) (hb:(hK k es).isSome=b) (aa:o.op = .lookup T m x true:=by rfl) (hm:aI env m=some (.own id):=by rfl) (hh:bd heap id=some (.map q es):=by rfl)
  (U:aI env x=some (.lit k):=by rfl) (hq:tI P T=some (q,et):=by rfl) (ag:h6 q k=true:=by rfl) (bh:yq P et=some z:=by rfl) (aj:bW env ops o.guard=some true:=by rfl) (hd:o.dst=some d:=by rfl) (aL:Nat.blt d ad=true:=by rfl)
  (h:a8 P n0 ops.toArray rest ⟨(d,.b0 [.lit r,.lit (.bool b)]) :: env,heap,next,ad⟩ Q):a8 P n0 ops.toArray (o :: rest) ⟨env,heap,next,ad⟩ Q:=by
 obtain ⟨kt,I,J⟩:=Bz hq
 subst hr hb
 exact gS aj hd aL Iw h
theorem Mf {l m:List UInt8} (h:l.length+m.length<=9223372036854775807):(bZ l).size+(bZ m).size<=9223372036854775807:=by rw[tp,tp];exact h
theorem dS {T cA d:Nat} {x y:Operand} {a b:ByteArray} {l m r:List UInt8} (hr:l++m=r) (hn:l.length+m.length<=9223372036854775807) (aa:o.op = .binOp .add T x y cA:=by rfl) (U:aI env x=some (.lit (.string a)):=by rfl) (ai:aI env y=some (.lit (.string b)):=by rfl) (bj:a=bZ l:=by rfl) (hb:b=bZ m:=by rfl)
  (aj:bW env ops o.guard=some true:=by rfl) (hd:o.dst=some d:=by rfl) (aL:Nat.blt d ad=true:=by rfl)
  (h:a8 P n0 ops.toArray rest ⟨(d,.lit (.string (bZ r))) :: env,heap,next,ad⟩ Q):a8 P n0 ops.toArray (o :: rest) ⟨env,heap,next,ad⟩ Q:=by
 subst hr bj hb
 refine gS aj hd aL ?_ h
 rw[<- K9]
 exact AG aa U ai (Mf hn)
end
section
variable {ops:List Oper} {rest:List Oper} {env:List (Nat×V)} {heap:List (Nat×Option aY)} {ad aA k bq:Nat} {W:Nat->Nat->Bool} {Q:ba->Prop}
theorem dT {T cA d:Nat} {x y:Operand} {a b:ByteArray} {l m r:List UInt8} (hr:l++m=r) (hn:l.length+m.length<=9223372036854775807) (aa:o.op = .binOp .add T x y cA:=by rfl) (U:aI (bA (looks ops o) env) x=some (.lit (.string a)):=by rfl) (ai:aI (bA (looks ops o) env) y=some (.lit (.string b)):=by rfl) (bj:a=bZ l:=by rfl) (hb:b=bZ m:=by rfl)
  (aj:bW (bA (looks ops o) env) ops o.guard=some true:=by rfl) (hd:o.dst=some d:=by rfl) (aL:Nat.blt d ad=true:=by rfl) (ag:k+1=bq:=by(simp only[Nat.reduceAdd];rfl)) (dl:Nat.ble aA k=true:=by rfl)
  (h:bk P ad aA ops W bq rest ((d,.lit (.string (bZ r))) :: env) heap Q):bk P ad aA ops W k (o :: rest) env heap Q:=by
 subst hr bj hb
 refine h7 aj hd aL dl ag (fun N=>?_) h
 rw[<- K9]
 exact AG aa U ai (Mf hn)
end
end
end
section
open Go.RowKit
theorem Mg {P:Program} {o:Oper} {st:ba} {G:List Nat} {T n:Nat} {x y:Operand} {a:ByteArray} {l:List UInt8} {k:IntKind} {m:Int} (aa:o.op = .index T x y) (U:aI st.env x=some (.lit (.string a))) (bj:a=bZ l) (ai:aI st.env y=some (.lit (.int k m)))
  (hm:m=(n:Int)) (hn:n<l.length) (aV:P.underlying T=some .string):bw P G o st (.lit (.int .u8 ((l.getD n default).toNat:Int))):=by
 subst bj
 have:=EY (P:=P) (G:=G) aa U ai hm (by rw[tp];exact hn) aV
 rw[FC] at this
 exact this
def XE (P:Program) (e:TypeId):Bool:=match P.info? e with|some i=>(match i.zero with|some (.int .u8 0)=>Nat.beq i.size 1 && Nat.beq i.bytes 1|_=>false)|none=>false
section
variable {P:Program} {o:Oper} {n0:Nat} {ops:List Oper} {rest:List Oper} {env:List (Nat×V)} {heap:List (Nat×Option aY)} {next ad:Nat} {Q:ba->Prop}
theorem ys {T n d:Nat} {x y:Operand} {a:ByteArray} {l:List UInt8} {k:IntKind} {m:Int} (aa:o.op = .index T x y:=by rfl) (U:aI env x=some (.lit (.string a)):=by rfl) (bj:a=bZ l:=by rfl) (ai:aI env y=some (.lit (.int k m)):=by rfl)
  (hm:m=(n:Int):=by first|exact uv|exact uw|exact ux|exact uy|rfl|exact Dw (by omega)|exact Dx (by omega)|exact(Int.toNat_of_nonneg (by omega)).symm) (hn:n<l.length:=by first|omega|(simp only[List.length_cons,List.length_nil];omega)) (aV:P.underlying T=some .string:=by rfl)
  (aj:bW env ops o.guard=some true:=by rfl) (hd:o.dst=some d:=by rfl) (aL:Nat.blt d ad=true:=by rfl) (h:a8 P n0 ops.toArray rest ⟨(d,.lit (.int .u8 ((l.getD n default).toNat:Int))) :: env,heap,next,ad⟩ Q):a8 P n0 ops.toArray (o :: rest) ⟨env,heap,next,ad⟩ Q:=
 gS aj hd aL (Mg aa U bj ai hm hn aV) h
end
section
variable {P:Program} {o:Oper} {ops:List Oper} {rest:List Oper} {env:List (Nat×V)} {heap:List (Nat×Option aY)} {ad aA k bq:Nat} {W:Nat->Nat->Bool} {Q:ba->Prop}
theorem yt {T n d:Nat} {x y:Operand} {a:ByteArray} {l:List UInt8} {fh:IntKind} {m:Int} (aa:o.op = .index T x y:=by rfl) (U:aI (bA (looks ops o) env) x=some (.lit (.string a)):=by rfl) (bj:a=bZ l:=by rfl) (ai:aI (bA (looks ops o) env) y=some (.lit (.int fh m)):=by rfl)
  (hm:m=(n:Int):=by first|exact uv|exact uw|exact ux|exact uy|rfl|exact Dw (by omega)|exact Dx (by omega)|exact(Int.toNat_of_nonneg (by omega)).symm) (hn:n<l.length:=by first|omega|(simp only[List.length_cons,List.length_nil];omega)) (aV:P.underlying T=some .string:=by rfl)
  (aj:bW (bA (looks ops o) env) ops o.guard=some true:=by rfl) (hd:o.dst=some d:=by rfl) (aL:Nat.blt d ad=true:=by rfl) (ag:k+1=bq:=by(simp only[Nat.reduceAdd];rfl)) (dl:Nat.ble aA k=true:=by rfl)
  (h:bk P ad aA ops W bq rest ((d,.lit (.int .u8 ((l.getD n default).toNat:Int))) :: env) heap Q):bk P ad aA ops W k (o :: rest) env heap Q:=
 h7 aj hd aL dl ag (fun N=>Mg aa U bj ai hm hn aV) h
theorem yu {T bR e:TypeId} {x:Operand} {a:ByteArray} {l:List UInt8} {d:Nat} (aa:o.op = .convert T bR x:=by rfl) (U:aI (bA (looks ops o) env) x=some (.lit (.string a)):=by rfl) (bj:a=bZ l:=by rfl) (aV:P.underlying T=some .string:=by rfl) (h3:P.underlying bR=some (.slice e):=by rfl) (he:P.underlying e=some (.int .u8):=by rfl) (h63:l.length<=140737488355328) (aj:bW (bA (looks ops o) env) ops o.guard=some true:=by rfl) (hd:o.dst=some d:=by rfl) (aL:Nat.blt d ad=true:=by rfl) (ag:k+1=bq:=by(simp only[Nat.reduceAdd];rfl)) (dl:Nat.ble aA k=true:=by rfl)
  (h:bk P ad aA ops W bq rest ((d,.ro (l.map aC)) :: env) heap Q):bk P ad aA ops W k (o :: rest) env heap Q:=by
 subst bj ag
 refine nH (s:=⟨.ro (l.map aC),[]⟩) (fun N _ _=>⟨bA (looks ops o) env,[],fun t x h=>mV h,fun id B h=>(by cases h),fun id h=>(rY h).elim,u9 aj (fun gm cS ay ak=>?_)⟩) ?_ dl
 ·have:=Ls (P:=P) (n0:=N) (st:=⟨gm,cS,N,ad⟩) aa hd aL (lW ay U) aV h3 he h63
  rw[hd]
  exact this
 ·rw[hd];exact h
theorem mH {T:TypeId} {x y:Operand} {id i j e s:Nat} {l r:List (List V)} {vs:List V} {v:V} (hi:i<l.length) (hr:l.set i (setAt j vs (bH l i))=r) (aa:o.op = .store T x y:=by rfl) (aj:bW (bA (looks ops o) env) ops o.guard=some true:=by rfl) (hd:o.dst=none:=by rfl) (U:aI (bA (looks ops o) env) x=some (.ptr id i s j):=by rfl) (hh:bd heap id=some (.row e s l):=by rfl) (ai:aI (bA (looks ops o) env) y=some v:=by rfl)
  (hf:flat v=some vs:=by rfl) (aw:vs.all n8=true:=by rfl) (aV:dt P T=some vs.length:=by rfl) (aq:Nat.ble (j+vs.length) s=true:=by rfl) (ag:k+1=bq:=by(simp only[Nat.reduceAdd];rfl)) (hb:Nat.ble aA k=true:=by rfl) (mi:W (k - aA) id=true:=by rfl) (hv:kp ops W aA (k - aA) id=true:=by kernel_rfl)
  (h:bk P ad aA ops W bq rest env ((id,some (.row e s r)) :: heap) Q):bk P ad aA ops W k (o :: rest) env heap Q:=by
 subst ag hr
 refine nH (s:=⟨.gl,[(id,some (.row e s (l.set i (setAt j vs (bH l i)))))]⟩) (fun N I J=>⟨bA (looks ops o) env,[(id,some (.row e s l))],fun t x h=>mV h,fun dQ bT eO=>?_,fun dQ h=>.inr ?_,?_⟩) ?_ hb
 ·rw[ea] at eO
  split at eO
  ·rename_i e;subst e;injection eO with eO;subst eO;exact⟨hv,hh⟩
  ·cases eO
 ·rw[rZ h,aa];exact⟨mi,rfl,hv⟩
 ·refine u9 aj (fun gm cS ay ak=>?_)
  have:=Kl (P:=P) (n0:=N) (st:=⟨gm,cS,N,ad⟩) aa hd (lW ay U) (ak id (.row e s l) (by simp[bd])) hi (lW ay ai) hf aw aV aq
  rw[hd]
  exact this
 ·rw[hd];exact h
theorem yv {T cA:TypeId} {x y:Operand} {fh:IntKind} {m n:Int} {d:Nat} (aa:o.op = .binOp .quo T x y cA:=by rfl) (U:aI (bA (looks ops o) env) x=some (.lit (.int fh m)):=by rfl) (ai:aI (bA (looks ops o) env) y=some (.lit (.int fh n)):=by rfl) (hm:0<=m:=by omega) (hn:0<n:=by omega) (hw:fh.wrap (m / n)=m / n:=by first|(rw[IntKind.wrap_i64];omega)|(rw[IntKind.wrap_u64];omega)|(rw[IntKind.wrap_u8];omega)) (aj:bW (bA (looks ops o) env) ops o.guard=some true:=by rfl) (hd:o.dst=some d:=by rfl) (aL:Nat.blt d ad=true:=by rfl) (ag:k+1=bq:=by(simp only[Nat.reduceAdd];rfl)) (dl:Nat.ble aA k=true:=by rfl)
  (h:bk P ad aA ops W bq rest ((d,.lit (.int fh (m / n))) :: env) heap Q):bk P ad aA ops W k (o :: rest) env heap Q:=by
 refine h7 aj hd aL dl ag (fun N=>?_) h
 have:=AE (P:=P) (G:=[]) (st:=⟨(bA (looks ops o) env),[],N,ad⟩) aa U ai (by omega)
 rw[Int.tdiv_eq_ediv_of_nonneg hm,hw] at this
 exact this
theorem yw {T cA:TypeId} {x y:Operand} {fh:IntKind} {m n:Int} {d:Nat} (aa:o.op = .binOp .rem T x y cA:=by rfl) (U:aI (bA (looks ops o) env) x=some (.lit (.int fh m)):=by rfl) (ai:aI (bA (looks ops o) env) y=some (.lit (.int fh n)):=by rfl) (hm:0<=m:=by omega) (hn:0<n:=by omega) (aj:bW (bA (looks ops o) env) ops o.guard=some true:=by rfl) (hd:o.dst=some d:=by rfl) (aL:Nat.blt d ad=true:=by rfl) (ag:k+1=bq:=by(simp only[Nat.reduceAdd];rfl)) (dl:Nat.ble aA k=true:=by rfl)
  (h:bk P ad aA ops W bq rest ((d,.lit (.int fh (m % n))) :: env) heap Q):bk P ad aA ops W k (o :: rest) env heap Q:=by
 refine h7 aj hd aL dl ag (fun N=>?_) h
 have:=AF (P:=P) (G:=[]) (st:=⟨(bA (looks ops o) env),[],N,ad⟩) aa U ai (by omega)
 rw[Int.tmod_eq_emod_of_nonneg hm] at this
 exact this
theorem yx {T cA:TypeId} {x y:Operand} {fh F2:IntKind} {m n:Int} {d:Nat} (aa:o.op = .binOp .shr T x y cA:=by rfl) (U:aI (bA (looks ops o) env) x=some (.lit (.int fh m)):=by rfl) (ai:aI (bA (looks ops o) env) y=some (.lit (.int F2 n)):=by rfl) (hn:0<=n:=by omega) (aj:bW (bA (looks ops o) env) ops o.guard=some true:=by rfl) (hd:o.dst=some d:=by rfl) (aL:Nat.blt d ad=true:=by rfl) (ag:k+1=bq:=by(simp only[Nat.reduceAdd];rfl)) (dl:Nat.ble aA k=true:=by rfl)
  (h:bk P ad aA ops W bq rest ((d,.lit (.int fh (m.fdiv (2 ^ min n.toNat fh.bits)))) :: env) heap Q):bk P ad aA ops W k (o :: rest) env heap Q:=
 h7 aj hd aL dl ag (fun N=>ES aa U ai hn) h
theorem yy {T cA:TypeId} {x y:Operand} {fh F2:IntKind} {m n:Int} {d:Nat} (aa:o.op = .binOp .shl T x y cA:=by rfl) (U:aI (bA (looks ops o) env) x=some (.lit (.int fh m)):=by rfl) (ai:aI (bA (looks ops o) env) y=some (.lit (.int F2 n)):=by rfl) (hn:0<=n:=by omega) (aj:bW (bA (looks ops o) env) ops o.guard=some true:=by rfl) (hd:o.dst=some d:=by rfl) (aL:Nat.blt d ad=true:=by rfl) (ag:k+1=bq:=by(simp only[Nat.reduceAdd];rfl)) (dl:Nat.ble aA k=true:=by rfl)
  (h:bk P ad aA ops W bq rest ((d,.lit (.int fh (fh.wrap (m * 2 ^ min n.toNat fh.bits)))) :: env) heap Q):bk P ad aA ops W k (o :: rest) env heap Q:=
 h7 aj hd aL dl ag (fun N=>ER aa U ai hn) h
theorem yz {T cA:TypeId} {x y:Operand} {l m:List UInt8} {d:Nat} (aa:o.op = .binOp .neq T x y cA:=by rfl) (U:aI (bA (looks ops o) env) x=some (.lit (.string (bZ l))):=by rfl) (ai:aI (bA (looks ops o) env) y=some (.lit (.string (bZ m))):=by rfl) (aj:bW (bA (looks ops o) env) ops o.guard=some true:=by rfl) (hd:o.dst=some d:=by rfl) (aL:Nat.blt d ad=true:=by rfl) (ag:k+1=bq:=by(simp only[Nat.reduceAdd];rfl)) (hb:Nat.ble aA k=true:=by rfl)
  (ht:¬ l=m->bk P ad aA ops W bq rest ((d,.lit (.bool true)) :: env) heap Q) (hf:l=m->bk P ad aA ops W bq rest ((d,.lit (.bool false)) :: env) heap Q):bk P ad aA ops W k (o :: rest) env heap Q:=by
 have h:=fun N=>JY (P:=P) (G:=[]) (st:=⟨(bA (looks ops o) env),[],N,ad⟩) aa U ai
 simp only[decide_eq_decide.2 (not_congr (Bg (l:=l) (m:=m)))] at h
 by_cases aw:l=m
 ·simp only[decide_eq_false (fun h=>h aw:¬ ¬ l=m)] at h;exact h7 aj hd aL hb ag h (hf aw)
 ·simp only[decide_eq_true aw] at h;exact h7 aj hd aL hb ag h (ht aw)
end
def atR (n:Nat):Code->Bool
 | .region i _ _=>Nat.beq i n
 | .seq a _=>atR n a
 | .block _ a=>atR n a
 | .loop a=>atR n a
 | _=>false
theorem Um {P:Program} {n0:Nat} {st:ba} (n:Nat) {x y:Code} {Q:Exit->ba->Prop} (hn:atR n x=false) (h:cq P n0 x st (qB (fun bG=>cq P n0 y bG Q) Q)):cq P n0 (.seq x y) st Q:=iv h
section
variable {P:Program} {n0:Nat} {o:Oper} {ops rest:List Oper} {env:List (Nat×V)} {heap:List (Nat×Option aY)} {next ad:Nat} {Q:ba->Prop}
theorem yA {T cA:TypeId} {x y:Operand} {a b:Bool} {d:Nat} (aa:o.op = .binOp .neq T x y cA:=by rfl) (U:aI env x=some (.lit (.bool a)):=by rfl) (ai:aI env y=some (.lit (.bool b)):=by rfl) (aV:P.underlying T=some .bool:=by rfl) (aj:bW env ops o.guard=some true:=by rfl) (hd:o.dst=some d:=by rfl) (aL:Nat.blt d ad=true:=by rfl)
  (ht:¬ a=b->a8 P n0 ops.toArray rest ⟨(d,.lit (.bool true)) :: env,heap,next,ad⟩ Q) (hf:a=b->a8 P n0 ops.toArray rest ⟨(d,.lit (.bool false)) :: env,heap,next,ad⟩ Q):a8 P n0 ops.toArray (o :: rest) ⟨env,heap,next,ad⟩ Q:=by
 have h:=Lb (P:=P) (G:=[]) (st:=⟨env,heap,next,ad⟩) aa U ai aV
 by_cases aw:a=b
 ·rw[show decide (¬ a=b)=false from by simp[aw]] at h;exact gS aj hd aL h (hf aw)
 ·rw[show decide (¬ a=b)=true from by simp[aw]] at h;exact gS aj hd aL h (ht aw)
end
section
variable {P:Program} {o:Oper} {ad aA k bq:Nat} {ops:List Oper} {W:Nat->Nat->Bool} {rest:List Oper} {env:List (Nat×V)} {heap:List (Nat×Option aY)} {Q:ba->Prop}
theorem yB {T cA:TypeId} {x y:Operand} {a b:Bool} {d:Nat} (aa:o.op = .binOp .neq T x y cA:=by rfl) (U:aI (bA (looks ops o) env) x=some (.lit (.bool a)):=by rfl) (ai:aI (bA (looks ops o) env) y=some (.lit (.bool b)):=by rfl) (aV:P.underlying T=some .bool:=by rfl) (aj:bW (bA (looks ops o) env) ops o.guard=some true:=by rfl) (hd:o.dst=some d:=by rfl) (aL:Nat.blt d ad=true:=by rfl) (ag:k+1=bq:=by(simp only[Nat.reduceAdd];rfl)) (hb:Nat.ble aA k=true:=by rfl)
  (ht:¬ a=b->bk P ad aA ops W bq rest ((d,.lit (.bool true)) :: env) heap Q) (hf:a=b->bk P ad aA ops W bq rest ((d,.lit (.bool false)) :: env) heap Q):bk P ad aA ops W k (o :: rest) env heap Q:=by
 have h:=fun N=>Lb (P:=P) (G:=[]) (st:=⟨bA (looks ops o) env,[],N,ad⟩) aa U ai aV
 by_cases aw:a=b
 ·simp only[show decide (¬ a=b)=false from by simp[aw]] at h;exact h7 aj hd aL hb ag h (hf aw)
 ·simp only[show decide (¬ a=b)=true from by simp[aw]] at h;exact h7 aj hd aL hb ag h (ht aw)
end
section
variable {P:Program} {n0:Nat} {o:Oper} {ops rest:List Oper} {env:List (Nat×V)} {heap:List (Nat×Option aY)} {next ad:Nat} {Q:ba->Prop}
theorem F3 {t e len d s:Nat} {parts:Array (Nat×Operand)} {bK:List (Nat×List V)} {l fl r:List (List V)} (hr:fl = r) (aa:o.op = .buildSlice t len parts:=by rfl) (ht:P.underlying t=some (.slice e):=by rfl) (ap:(dt P e).getD 0=s:=by rfl) (aw:lU env parts.toList=some bK:=by rfl) (aq:r4 P e len bK=some l:=by rfl) (eI:ls l fl:=by repeat'(first|exact ls.nil|apply ls.cons|exact Norm.nil|apply Norm.cons)) (mW:fl.all (fun cs=>cs.all n8)=true:=by rfl) (aj:bW env ops o.guard=some true:=by rfl) (hd:o.dst=some d:=by rfl) (aL:Nat.blt d ad=true:=by rfl) (hn0:Nat.ble n0 next=true:=by rfl) (hlen:Nat.blt 0 len=true:=by rfl) (jJ:Nat.ble (len * (dt P e).getD 0) 16777216=true:=by rfl)
  (h:a8 P n0 ops.toArray rest ⟨(d,.own next) :: env,(next,some (.row e s r)) :: heap,next+1,ad⟩ Q):a8 P n0 ops.toArray (o :: rest) ⟨env,heap,next,ad⟩ Q:=by
 subst hr
 exact Js aa ht ap aw aq eI mW aj hd aL hn0 hlen jJ h
end
section
variable {P:Program} {o:Oper} {ad aA k bq:Nat} {ops:List Oper} {W:Nat->Nat->Bool} {rest:List Oper} {env:List (Nat×V)} {heap:List (Nat×Option aY)} {Q:ba->Prop}
theorem re {t d:Nat} {x:Operand} {bJ hi:Option Operand} {l r:List UInt8} {a b:Option Int} (m n:Nat) (bj:a.getD 0=(m:Int)) (dl:b.getD l.length=(n:Int)) (gx:m<=n) (hn:n<=l.length) (hr:(l.take n).drop m=r)
  (aa:o.op = .slice t x bJ hi none:=by rfl) (U:aI (bA (looks ops o) env) x=some (.lit (.string (bZ l))):=by rfl) (eG:j3 (bA (looks ops o) env) bJ=some a:=by rfl) (h8:j3 (bA (looks ops o) env) hi=some b:=by rfl) (ht:P.underlying t=some .string:=by rfl)
  (aj:bW (bA (looks ops o) env) ops o.guard=some true:=by rfl) (hd:o.dst=some d:=by rfl) (aL:Nat.blt d ad=true:=by rfl) (ag:k+1=bq:=by(simp only[Nat.reduceAdd];rfl)) (hb:Nat.ble aA k=true:=by rfl) (h:bk P ad aA ops W bq rest ((d,.lit (.string (bZ r))) :: env) heap Q):bk P ad aA ops W k (o :: rest) env heap Q:=by
 subst hr
 exact h7 aj hd aL hb ag (fun N=>Lj aa U eG h8 ht bj dl gx hn) h
end
theorem F4 {m:Nat->Nat} {fx:Nat} {heap cS:List (Nat×Option aY)} (h:∀ id B,bd heap id=some B->bd cS id=some B):∀ {e:List (Nat×Option aY)},na m fx heap e->na m fx cS e
 | [],_=>trivial
 | (_,none) :: r,hc=>F4 (e:=r) h hc
 | (_,some _) :: r,hc=>⟨⟨hc.1.1,h _ _ hc.1.2⟩,F4 (e:=r) h hc.2⟩
def vl (heap:List (Nat×Option aY)):List Nat->List (Nat×Option aY)
 | []=>[]
 | id :: M=>(id,bd heap id) :: vl heap M
theorem Mh {heap:List (Nat×Option aY)}:∀ {M:List Nat} {id:Nat} {B:aY},bd (vl heap M) id=some B->mX M id=true/\bd heap id=some B
 | [],id,B,h=>by simp[vl,bd] at h
 | a :: M,id,B,h=>by
  unfold vl at h
  rw[ea] at h
  split at h
  ·rename_i e
   subst e
   exact⟨by simp[mX],h⟩
  ·have:=Mh (M:=M) h
   exact⟨by simp[mX,this.1],this.2⟩
theorem Mi {M:List Nat} {k:Nat}:∀ {H:List (Nat×Option aY)},H.all (fun p=>Nat.beq p.1 k || mX M p.1)=true -> ∀ id,kI H id=true->id=k\/mX M id=true
 | [],_,id,h=>by cases h
 | p :: H,bj,id,h=>by
  rw[List.all_cons,Bool.and_eq_true] at bj
  unfold kI at h
  cases hb:Nat.beq p.1 id with
  | true=>
   have e:=Nat.eq_of_beq_eq_true hb
   subst e
   have I:=bj.1
   rw[Bool.or_eq_true] at I
   rcases I with I|I
   ·exact .inl (Nat.eq_of_beq_eq_true I)
   ·exact .inr I
  | false=>
   rw[hb] at h
   exact Mi (H:=H) bj.2 id h
theorem F5 {M:List Nat} {p:Nat->Bool} (h:M.all p=true) {id:Nat} (hm:mX M id=true):p id=true:=by
 exact List.all_eq_true.1 h id (Bv hm)
section
variable {P:Program} {o:Oper} {ad aA k bq:Nat} {ops:List Oper} {W:Nat->Nat->Bool} {rest:List Oper} {env:List (Nat×V)} {heap:List (Nat×Option aY)} {Q:ba->Prop}
theorem gU {f:FuncId} {xs:Array Operand} {ts:Array TypeId} {vs cc:List V} {r fT:V} {af I H cS:List (Nat×Option aY)} {bL d:Nat} (M:List Nat) (hf:cU P f cc af M.length r I bL) (aa:o.op = .call { callee:=.value (.func f),args:=xs,argTypes:=ts }:=by rfl)
  (aj:bW (bA (looks ops o) env) ops o.guard=some true:=by rfl) (hd:o.dst=some d:=by rfl) (aL:Nat.blt d ad=true:=by rfl) (U:gw (bA (looks ops o) env) xs.toList=some vs:=by rfl)
  (hw : ∀ N, dI vs (dR.gF (cd (M ++ [k]) N) cc) := by (intro N; (repeat' (first | exact dI.nil | refine dI.cons ?_ ?_ | exact cZ.refl _ | exact cZ.nil | refine cZ.agg ?_ | refine cZ.b0 ?_)); first | done | fail "args"))
  (jd : jL (M ++ [k]) = true := by rfl) (hh : ∀ N, na (cd (M ++ [k]) N) M.length (vl heap M) af := by (intro N; (repeat' (first | exact True.intro | exact rfl | refine And.intro ?_ ?_)); first | done | fail "mem"))
  (jr:bL=M.length+1:=by rfl) (wU:I.all (fun p=>Nat.blt p.1 bL)=true:=by rfl)
  (hr:∀ N,dR (cd (M++[k]) N) r=fT:=by first|(intro N;simp only[dR,dR.gF,List.cons_append,List.nil_append,r9,tA,tB,tC,tD,tE,tF,tG];rfl)|(intro N;rfl))
  (ak:∀ N,h9 (cd (M++[k]) N) I++iq M=H:=by(intro N;simp only[h9,lu,dR,dR.gF,iq,Option.map_some,Option.map_none,List.cons_append,List.nil_append,r9,tA,tB,tC,tD,tE,tF,tG];rfl))
  (eT:H.all (fun p=>Nat.beq p.1 k || mX M p.1)=true:=by rfl) (mi:M.all (fun id=>W (k - aA) id)=true:=by kernel_rfl) (hv:M.all (fun id=>kp ops W aA (k - aA) id)=true:=by kernel_rfl)
  (ag:k+1=bq:=by(simp only[Nat.reduceAdd];rfl)) (dl:Nat.ble aA k=true:=by rfl) (hc:A6 o.op=true:=by rfl) (Un:H++heap=cS:=by(simp only[List.cons_append,List.nil_append];rfl))
  (h:bk P ad aA ops W bq rest ((d,fT) :: env) cS Q):bk P ad aA ops W k (o :: rest) env heap Q:=by
 subst Un
 refine tt (Hn:=vl heap M) (H:=H) aj hd ag dl (fun id B h=>?_) (fun id h=>?_) (fun N gm cS ay xE=>?_) h
 ·obtain ⟨aT,a1⟩:=Mh h
  exact⟨F5 hv aT,a1⟩
 ·rcases Mi eT id h with q|q
  ·exact .inl q
  ·exact .inr ⟨F5 mi q,hc,F5 hv q⟩
 ·have:=L7 (k:=k) (st:=⟨gm,cS,N,ad⟩) M hf aa nz (xF ay U) (hw N) jd (F4 (fun id B h=>xE id B h) (hh N)) jr wU
  rw[hd] at this
  rw[hr N,<- List.append_assoc,ak N] at this
  exact this
end
section
variable {P:Program} {n0:Nat} {o:Oper} {ops rest:List Oper} {env:List (Nat×V)} {heap:List (Nat×Option aY)} {next ad:Nat} {Q:ba->Prop}
theorem rh {α:Type} [Inhabited α] {f:α->List V} {t e s d:Nat} {x z:Operand} {bJ hi:Option Operand} {v:V} {l r:List α} {a b:Option Int} {r1:IntKind} {xT:Int} (m n:Nat) (bj:a.getD 0=(m:Int)) (hb:b.getD l.length=(n:Int)) (gx:m<=n) (hn:n<=l.length) (hr:(l.take n).drop m=r)
  (aa:o.op = .slice t x bJ hi (some z):=by rfl) (U:aI env x=some v:=by rfl) (hv:r0 heap v=some (l.map f):=by rfl) (eG:j3 env bJ=some a:=by rfl) (h8:j3 env hi=some b:=by rfl) (xR:hi.isSome=true:=by rfl) (bh:aI env z=some (.lit (.int r1 xT)):=by rfl) (hc:xT=(n:Int):=by first|rfl|omega)
  (ht:P.underlying t=some (.slice e):=by rfl) (ap:dt P e=some s:=by rfl) (ij:∀ x,(f x).length=s:=by intro x;rfl)
  (aj:bW env ops o.guard=some true:=by rfl) (hd:o.dst=some d:=by rfl) (aL:Nat.blt d ad=true:=by rfl) (h:a8 P n0 ops.toArray rest ⟨(d,.ro (r.map f)) :: env,heap,next,ad⟩ Q):a8 P n0 ops.toArray (o :: rest) ⟨env,heap,next,ad⟩ Q:=by
 have e:((l.map f).take n).drop m=r.map f:=by rw[<- hr,List.map_drop,List.map_take]
 refine gS aj hd aL ?_ h
 rw[<- e]
 exact Tr (l:=l.map f) aa U hv eG h8 xR bh ht ap (FF ij) bj (by rw[List.length_map];exact hb) hc gx (Nat.le_refl _) (by rw[List.length_map];exact hn)
end
section
variable {P:Program} {G:List Nat} {o:Oper} {st:ba}
theorem ui {x y z u:Operand} {ts:Array TypeId} {k:IntKind} {a b c d:Int} (aa:o.op = .call { callee:=.builtin .min,args:=#[x,y,z,u],argTypes:=ts }) (U:aI st.env x=some (.lit (.int k a))) (ai:aI st.env y=some (.lit (.int k b)))
  (bh:aI st.env z=some (.lit (.int k c))) (hu:aI st.env u=some (.lit (.int k d))):bw P G o st (.lit (.int k (min (min a b) (min c d)))):=
 hs fun F base w0 ρ gQ w ak ay=>by
  refine ⟨_,.pure (.lit _ rfl),fun aE=>?_⟩
  unfold execOp;rw[aa]
  simp only[resolve,invoke,Sem.run_bind,Sem.run_pure,Result.andThen_ok,List.map_toArray,List.map_cons,List.map_nil]
  rw[ff (c0 ay U),ff (c0 ay ai),ff (c0 ay bh),ff (c0 ay hu)]
  have aN:∀ m n:Int,(if n<m then n else m)=min m n:=fun m n=>by split <;> omega
  have e:min (min a b) (min c d)=min (min (min a b) c) d:=by omega
  rw[e]
  simp[builtin,Builtin.min_,Builtin.min2,Sem.run_pure,aN,Sem.run_bind]
end
end
section
open Go.RowKit Go.ChangeMaps
section
variable {P:Program} {o:Oper} {n0:Nat} {st:ba}
section
variable {ops:List Oper} {rest:List Oper} {env:List (Nat×V)} {heap:List (Nat×Option aY)} {next ad:Nat} {Q:ba->Prop}
end
end
end
section
open Go.RowKit
section
variable {P:Program} {o:Oper} {n0:Nat} {st:ba} {G:List Nat}
section
variable {ops:List Oper} {rest:List Oper} {env:List (Nat×V)} {heap:List (Nat×Option aY)} {next ad:Nat} {Q:ba->Prop}
end
end
end
end Go.Proofs.YtendheafcbickaaGreat
