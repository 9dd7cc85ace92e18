
import Derived.Test.YtendheafcbickaaGreatCAbsA
import Derived.Laws.StructEq
import Derived.ChangeMaps5
import Derived.Laws.RangeString
set_option linter.unusedVariables false
set_option linter.unusedSimpArgs false
namespace Go.Proofs.YtendheafcbickaaGreat
variable {A:Option Addr} {B:aT} {Bw m:Int} {H J cB:List (Nat×Option aT)} {L:List (Nat×Nat)} {La cF rG:IntKind} {S iE:Nat->Prop} {T bT cX et kt:TypeId} {a b:Option Int} {aF:World} {b3:Array MapEntry} {bB by_ cap clock d e eW hM i id j len mS n next' s t:Nat} {bl:Nat->Option Value} {bq:aW} {cY:Array Field} {es:List (Value×Value)} {f:FuncId} {fn:Func} {gC hi:Option Operand} {inv:Nat->Option Nat} {l r:List UInt8} {mp:Nat->Nat} {ok:Bool} {p:Prop} {parts:Array (Nat×Operand)} {q:Option IntKind} {ts:Array TypeId} {u v z:Value} {us:Array Value} {x y:Operand} {xs:Array Operand} {α:Type}
section
open Go.RowKit
def c7 (l:List UInt8):ByteArray:=⟨l.toArray⟩
theorem vZ (l:List UInt8):(c7 l).size=l.length:=by simp[c7,ByteArray.size]
theorem KS (l:List UInt8):(c7 l).data.toList=l:=by simp[c7]
theorem E9 {m:List UInt8}:c7 l=c7 m ↔ l=m:=⟨fun h=>by rw[<- KS l,h,KS],fun h=>by rw[h]⟩
theorem Rw (l m:List UInt8):c7 l++c7 m=c7 (l++m):=by apply ByteArray.ext;simp[c7]
def bm (c:UInt8):List V:=[.lit (.int .u8 (c.toNat:Int))]
noncomputable def yes (p:Prop):Bool:=@decide p (Classical.propDecidable p)
theorem Ez :yes p=true ↔ p:=by unfold yes;exact @decide_eq_true_iff p (Classical.propDecidable p)
theorem KT :yes p=false ↔ ¬ p:=by unfold yes;exact @decide_eq_false_iff_not p (Classical.propDecidable p)
theorem jM (h:¬ p):yes p=false:=KT.2 h
theorem j6 (h:p):yes p=true:=Ez.2 h
theorem rH (h:p):V.lit (.bool true)=ab (yes p):=by rw[j6 h]
theorem oy (h:¬ p):V.lit (.bool false)=ab (yes p):=by rw[jM h]
section
variable {P:Program} {G:List Nat} {o:Oper} {st:aW}
theorem Rx {m n:Bool} (ae:o.op = .binOp .eql T x y cX) (U:aJ st.env x=some (ab m)) (aj:aJ st.env y=some (ab n)) (aY:P.underlying T=some .bool) :
  bu P G o st (ab (decide (m=n))):=jX ae U aj (fun w=>by
   have:=run_equalIn_bool (P:=P) w 9999 T m n aY;have e:(m == n)=decide (m=n):=by cases m <;> cases n <;> rfl
   rw[e] at this
   simp[eqGuard,binOp,Op.equal,Op.maxDepth,Sem.run_bind,Sem.run_pure,this]) rfl
theorem Ry {m n:Bool} (ae:o.op = .binOp .neq T x y cX) (U:aJ st.env x=some (ab m)) (aj:aJ st.env y=some (ab n)) (aY:P.underlying T=some .bool) :
  bu P G o st (ab (decide (¬ m=n))):=jX ae U aj (fun w=>by
   have:=run_equalIn_bool (P:=P) w 9999 T m n aY;have e:(m == n)=decide (m=n):=by cases m <;> cases n <;> rfl
   rw[e] at this
   simp[eqGuard,binOp,Op.equal,Op.maxDepth,Sem.run_bind,Sem.run_pure,this]) rfl
theorem Ext.none {w:World} {ρ:Nat->Option Value} (h:Ext (u5 ρ []) w aF):dl (fun _=>True) w aF:=fun b _ hb=>h.block b hb (fun ⟨id,_,hm,_⟩=>by cases hm)
theorem Rz {e:TypeId} {v:V} (ae:o.op = .convert T bT x) (U:aJ st.env x=some v) (ak:ij st.heap v=some (l.map bm)) (aY:P.underlying T=some (.slice e)) (he:P.underlying e=some (.int .u8)) (ja:P.underlying bT=some .string) :
  bu P [] o st (.lit (.string (c7 l))):=fun F base w0 ρ a w hH ax _=>by
 refine ⟨_,.pure (.lit _ rfl),fun aF jo=>?_⟩;unfold execOp;rw[ae];simp only[];have ao:∀ i,i<(l.map bm).length->(bb (l.map bm) i).length=1:=fun i hi=>by
  rw[bY] at hi;rw[gV bm hi];rfl
 obtain ⟨A,c,news,hu,om,dC,hrel⟩:=IX (F:=F) (base:=base) (w0:=w0) (next:=st.next) (ρ:=ρ) (heap:=st.heap) hH (df ax U) ak ao (by omega);rw[hu];simp only[bY,Nat.mul_one] at om dC hrel ⊢;have kX:∀ j (ad:j<l.length) (a0:Addr),A=some a0->(∀ j u,news[j]? = some u->w.cell? (a0.add j)=some u)->aF.cell? (a0.add j)=some (.int .u8 (l[j].toNat:Int)):=by
  intro j ad a0 br hn;obtain ⟨u,J,aa⟩:=hrel j 0 ad (by omega);simp only[kq] at J;have hc:=hn j u J;have o1:l.getD j default=l[j]:=by rw[bZ,eB ad];rfl
  rw[gV bm ad,o1] at aa;have e:bw (bm l[j]) 0 = .lit (.int .u8 (l[j].toNat:Int)):=rfl;rw[e] at aa
  cases aa
  have ry:=World.block_lt_of_cell? w _ hc;have:=jo.none _ trivial ry;rw[<- hc];simp[World.cell?,this]
 by_cases ai:l.length=0
 ·have:l=[]:=pj ai;subst this;rw[Sem.run_bind,run_convert_bytes_string aF T bT e A _ _ aY he ja]
  cases A with
  | none=>rfl
  | some a0=>
   have:=run_bytesToString (P:=P) aF a0 0 c [] (by have:=run_loadCells_list (P:=P) (w:=aF) a0 [] (fun j v ad=>by simp at ad);simpa using this);simp only[fg] at this ⊢;rw[this];rfl
 ·rcases dC with dC | ⟨a0,br,hn⟩
  ·omega
  ·subst br;simp only[Sem.run_bind,run_convert_bytes_back aF T bT e a0 c l aY he ja (fun j ad=>kX j ad a0 rfl hn)];rfl
theorem aaE (l:List (List V)) (m i:Nat):bb (l.drop m) i=bb l (m+i):=by
 unfold bb;rw[bZ,bZ,List.getElem?_drop]
theorem aaF (l:List (List V)) (h:i<n):bb (l.take n) i=bb l i:=by
 unfold bb;rw[bZ,bZ,n7,al h]
theorem RA {w:World} {l:List (List V)} {m:Nat} (h:gn S w (.ro l) u) (hP:m<=n) (hn:n<=l.length) (hc:∀ A L c,u = .slice A L c->n<=hM /\ hM <= c) (aw:∀ i,i<l.length->(bb l i).length=s) :
  ∃ A L c,u = .slice A L c/\L=l.length/\L<=c/\gn S w (.ro ((l.take n).drop m)) (sliced A m n hM s):=by
 generalize ak:V.ro l=v at h
 cases h with
 | lit=>cases ak
 | ro dW A c dP b off us Fa hm ar dC cZ kX hrel=>
  injection ak with ak;subst ak;obtain ⟨b6,cU⟩:=hc _ _ _ rfl;refine ⟨A,_,c,rfl,rfl,Fa,?_⟩;have hlen:((l.take n).drop m).length=n - m:=by simp;omega
  have he:∀ i,i<n - m->bb ((l.take n).drop m) i=bb l (m+i):=fun i hi=>by rw[aaE,aaF l (by omega)]
  unfold sliced;by_cases ai:0<n - m
  ·have lR:0<l.length:=by omega
   obtain ⟨Iy,Iz⟩:=dC lR;have es:dP = s:=by rw[<- cZ 0 lR,aw 0 lR]
   subst es;subst Iy;have ct:¬ hM = m:=by omega
   rw[ah ct];have e:(Option.map (fun x=>Addr.add x (m * dP)) (some (Addr.mk b off none)))=some ⟨b,off+m * dP,none⟩:=by simp[sz]
   rw[e];have:=gn.ro (S:=S) (w:=w) ((l.take n).drop m) (some ⟨b,off+m * dP,none⟩) (hM - m) dP b (off+m * dP) (fun i j=>us (m+i) j) (by rw[hlen];omega) (by unfold maxLen at *;omega) ar (fun _=>⟨rfl,Iz⟩)
    (fun i hi=>by rw[hlen] at hi;rw[he i hi];exact cZ _ (by omega))
    (fun i j hi ad=>by
     rw[hlen] at hi;have:=kX (m+i) j (by omega) ad;rw[Nat.add_mul] at this
     rw[<- this];congr 2;omega)
    (fun i j hi ad=>by rw[hlen] at hi;rw[he i hi];exact hrel _ _ (by omega) ad)
   rwa [hlen] at this
  ·have pL:(l.take n).drop m=[]:=pj (by omega);have aU:n - m=0:=by omega
   rw[pL,aU];exact .ro [] _ (hM - m) 1 0 0 (fun _ _=>undef) (by simp) (by unfold maxLen at *;omega) (by omega) (fun h=>by simp at h) (fun i hi=>by simp at hi) (fun i j hi=>by simp at hi) (fun i j hi=>by simp at hi)
def k2 (env:List (Nat×V)):Option Operand->Option (Option Int)
 | none=>some none
 | some y=>match aJ env y with
  | some (.lit (.int _ n))=>some (some n)
  | _=>none
theorem RB {t e:TypeId} (ht:P.underlying t=some (.slice e)):P.elem t=e:=by
 unfold Program.elem;rw[ht]
def uo (heap:List (Nat×Option aT)):V->Option (List (List V))
 | .ro l=>some l
 | .lit (.slice none 0 0)=>some []
 | .own id=>match aM heap id with
  | some (.dY l)=>some l
  | _=>none
 | _=>none
theorem RC {F:Nat->Prop} {base:Nat->Prop} {ρ:Nat->Option Value} {heap:List (Nat×Option aT)} {next:Nat} {w0 w:World} (hH:HRel0 F base ρ heap next w0 w) {v:V} (h:cT ρ (bs F ρ heap) w v u) {l:List (List V)} (ak:uo heap v=some l):gn (bs F ρ heap) w (.ro l) u:=by
 unfold uo at ak;split at ak
 ·injection ak with ak;subst ak
  cases h with
  | pure h=>exact h
 ·injection ak with ak;subst ak;rw[fO h];exact .ro [] none 0 1 0 0 (fun _ _=>undef) (by simp) qN (by omega) (fun h=>by simp at h) (fun i hi=>by simp at hi) (fun i j hi=>by simp at hi) (fun i j hi=>by simp at hi)
 ·split at ak
  ·rename_i hh;injection ak with ak;subst ak;obtain ⟨v,J,aa,_⟩:=hH.cJ _ _ hh;rw[j8 h] at J;injection J with J;subst J;exact aa
  ·cases ak
 ·cases ak
inductive sR:Option Value->Nat->Nat->Prop
 | none (d:Nat):sR none d d
 | some (k:IntKind) (n d:Nat):sR (some (.int k n)) d n
theorem aaG {m:Nat} {gC hi:Option Value} (ht:P.underlying t=some (.slice e)) (aw:dr P e=some s) (gb:sR gC 0 m) (iI:sR hi len n) (hP:m<=n) (hn:n<=cap) (w:World) :
  (Instr.sliceAt t (.slice A len cap) gC hi none).run P w = .ok (sliced A m n cap s) w:=by
 have he:=RB ht;have sS:P.underlying t=some (.slice (P.elem t)):=by rw[he];exact ht
 have sA:(sizeOf (P.elem t)).run P w = .ok s w:=by rw[he];exact tM aw w
 rw[run_sliceAt_slice w t _ _ _ _ sS]
 cases gb with
 | none=>
  cases iI with
  | none=>rw[run_slice_all w t A _ cap sS,sA];rfl
  | some k n=>rw[run_slice_h w t A len cap sS k n (by omega) (by omega),sA];simp[Result.andThen]
 | some k m=>
  cases iI with
  | none=>rw[run_slice_l w t A _ cap sS k m (by omega) (by omega),sA];simp[Result.andThen]
  | some bn n=>rw[run_slice_lh w t A len cap sS k bn m n (by omega) (by omega) (by omega),sA];simp[Result.andThen]
theorem aaH {m:Nat} {k:IntKind} {gC hi:Option Value} (ht:P.underlying t=some (.slice e)) (aw:dr P e=some s) (gb:sR gC 0 m) (iI:sR hi len n) (Bv:hi.isSome=true) (hP:m<=n) (hn:n<=hM) (hc:hM <= cap) (w:World) :
  (Instr.sliceAt t (.slice A len cap) gC hi (some (.int k hM))).run P w = .ok (sliced A m n hM s) w:=by
 have he:=RB ht;have sS:P.underlying t=some (.slice (P.elem t)):=by rw[he];exact ht
 have sA:(sizeOf (P.elem t)).run P w = .ok s w:=by rw[he];exact tM aw w
 rw[run_sliceAt_slice w t _ _ _ _ sS]
 cases iI with
 | none=>cases Bv
 | some bn n=>
  cases gb with
  | none=>rw[run_slice_hm w t A len cap sS bn k n hM (by omega) (by omega) (by omega),sA];simp[Result.andThen]
  | some de m=>rw[run_slice_lhm w t A len cap sS de bn k m n hM (by omega) (by omega) (by omega) (by omega),sA];simp[Result.andThen]
theorem xY {ρ:Nat->Option Value} {w:World} {af:Nat} {env:List (Nat×V)} {a:Act} (ax:e0 ρ S w af env a) {o:Option Operand} {m:Nat} (h:k2 env o=some b) (hb:b.getD d=(m:Int)):sR (o.map a.eval) d m:=by
 cases o with
 | none=>
  simp only[k2,ck] at h;subst h;simp only[Option.getD_none] at hb;have:d=m:=by omega
  subst this;exact .none d
 | some y=>
  simp only[k2] at h;split at h
  ·rename_i k n aj;injection h with h;subst h;simp only[tn] at hb;subst hb;rw[Option.map_some,fO (df ax aj)];exact .some _ _ _
  ·cases h
theorem RD {m:Nat} {v:V} {l:List (List V)} (ae:o.op = .slice t x gC hi none) (U:aJ st.env x=some v) (ak:uo st.heap v=some l) (gb:k2 st.env gC=some a) (iI:k2 st.env hi=some b) (ht:P.underlying t=some (.slice e)) (aw:dr P e=some s) (jz:∀ i,i<l.length->(bb l i).length=s) (br:a.getD 0=(m:Int)) (hb:b.getD l.length=(n:Int)) (hP:m<=n) (hn:n<=l.length):bu P G o st (.ro ((l.take n).drop m)):=
 iP fun F base w0 ρ ac w hH ax=>by
  have ar:=RC hH (df ax U) ak;have hex:∃ A L c,ac.eval x = .slice A L c/\L=l.length/\L<=c:=by
   generalize ac.eval x=u at ar
   cases ar with
   | ro=>exact⟨_,_,_,rfl,rfl,by assumption⟩
  obtain ⟨A,L,c,hu,cw,aaI⟩:=hex;subst cw;obtain ⟨ol,E5,aaJ,c2,_,_,hr⟩:=RA (hM:=c) ar hP hn (fun aaK aaL dz ai=>by rw[hu] at ai;injection ai with _ _ ai;subst ai;exact⟨by omega,e4 _⟩) jz;rw[hu] at c2;injection c2 with aI a7 cC;subst aI;refine ⟨_,.pure hr,fun aF=>?_⟩;unfold execOp;rw[ae];simp only[Option.map_none];rw[hu];simp only[Sem.run_bind,aaG ht aw (xY ax gb br) (xY ax iI hb) hP (show n<=c by omega) aF];rfl
theorem aaM {m:Nat} {z:Operand} {v:V} {l:List (List V)} (ae:o.op = .slice t x gC hi (some z)) (U:aJ st.env x=some v) (ak:uo st.heap v=some l) (gb:k2 st.env gC=some a) (iI:k2 st.env hi=some b) (Bv:hi.isSome=true) (aU:aJ st.env z=some (.lit (.int rG Bw))) (ht:P.underlying t=some (.slice e)) (aw:dr P e=some s) (jz:∀ i,i<l.length->(bb l i).length=s) (br:a.getD 0=(m:Int)) (hb:b.getD l.length=(n:Int)) (hc:Bw=(hM:Int)) (hP:m<=n) (hn:n<=hM) (e7:hM <= l.length):bu P G o st (.ro ((l.take n).drop m)):=
 iP fun F base w0 ρ ac w hH ax=>by
  subst hc;have ar:=RC hH (df ax U) ak;have hex:∃ A L c,ac.eval x = .slice A L c/\L=l.length/\L<=c:=by
   generalize ac.eval x=u at ar
   cases ar with
   | ro=>exact⟨_,_,_,rfl,rfl,by assumption⟩
  obtain ⟨A,L,c,hu,cw,aaI⟩:=hex;subst cw;obtain ⟨ol,E5,aaJ,c2,_,_,hr⟩:=RA (hM:=hM) ar hP (by omega) (fun aaK aaL dz ai=>by rw[hu] at ai;injection ai with _ _ ai;subst ai;exact⟨hn,by omega⟩) jz;rw[hu] at c2;injection c2 with aI a7 cC;subst aI;refine ⟨_,.pure hr,fun aF=>?_⟩;unfold execOp;rw[ae];simp only[Option.map_some];rw[hu,fO (df ax aU)];simp only[Sem.run_bind,aaH ht aw (xY ax gb br) (xY ax iI hb) (by simpa using Bv) hP hn (show hM <= c by omega) aF];rfl
theorem aaN {m:Nat} {str:ByteArray} {gC hi:Option Value} (ht:P.underlying t=some .string) (gb:sR gC 0 m) (iI:sR hi str.size n) (hP:m<=n) (hn:n<=str.size) (w:World) :
  (Instr.sliceAt t (.string str) gC hi none).run P w = .ok (.string (str.extract m n)) w:=by
 rw[run_sliceAt_string w t _ _ _ _ ht];have hb:∀ (k:IntKind) (i y:Nat) (c:BoundsCode),i<=y->(Instr.sliceBound (.int k i) y c).run P w = .ok i w:=fun k i y c h=>by
  have:=run_sliceBound (P:=P) w k (i:Int) y c (by omega) (by omega);simpa using this
 cases gb with
 | none=>
  cases iI with
  | none=>simp[Instr.slice,run_underlying ht,Instr.sliceBounds,Sem.run_bind,Sem.run_pure]
  | some k n=>simp[Instr.slice,run_underlying ht,Instr.sliceBounds,Sem.run_bind,Sem.run_pure,hb k n _ _ hn]
 | some k m=>
  cases iI with
  | none=>simp[Instr.slice,run_underlying ht,Instr.sliceBounds,Sem.run_bind,Sem.run_pure,hb k m _ _ hP]
  | some bn n=>simp[Instr.slice,run_underlying ht,Instr.sliceBounds,Sem.run_bind,Sem.run_pure,hb k m _ _ hP,hb bn n _ _ hn]
theorem RE {m:Nat} (ae:o.op = .slice t x gC hi none) (U:aJ st.env x=some (.lit (.string (c7 l)))) (gb:k2 st.env gC=some a) (iI:k2 st.env hi=some b) (ht:P.underlying t=some .string) (br:a.getD 0=(m:Int)) (hb:b.getD l.length=(n:Int)) (hP:m<=n) (hn:n<=l.length):bu P G o st (.lit (.string (c7 ((l.take n).drop m)))):=
 iP fun F base w0 ρ ac w hH ax=>by
  have cZ:(c7 l).size=l.length:=vZ l;refine ⟨_,.pure (.lit _ rfl),fun aF=>?_⟩;unfold execOp;rw[ae];simp only[Option.map_none];rw[fO (df ax U)];have he:(c7 l).extract m n=c7 ((l.take n).drop m):=by
   apply ByteArray.ext;simp[c7,ByteArray.data_extract,List.drop_take]
  simp only[Sem.run_bind,aaN ht (xY ax gb br) (by have:=xY ax iI hb;rwa [<- cZ] at this) hP (show n<=(c7 l).size by omega) aF,he];rfl
def KU:V->Bool
 | .ptr ..=>true
 | .fk _=>true
 | _=>false
theorem RF {v:V} (ae:o.op = .nilCheck x) (U:aJ st.env x=some v) (ak:KU v=true):bu P G o st v:=
 iP fun F base w0 ρ a w hH ax=>by
  have h:=df ax U;refine ⟨_,h,fun aF=>?_⟩;unfold execOp;rw[ae];simp only[]
  cases v with
  | ptr=>obtain ⟨r,b,J,aa,az⟩:=pR h;rw[az];rfl
  | fk=>obtain ⟨b,off,us,J,_⟩:=Iw h;rw[J];rfl
  | _=>cases ak
section
variable {n0:Nat} {ops:List Oper} {rest:List Oper} {env:List (Nat×V)} {heap:List (Nat×Option aT)} {next af:Nat} {Q:aW->Prop}
theorem AT {T cX:TypeId} {m:List UInt8} (ae:o.op = .binOp .eql T x y cX:=by rfl) (U:aJ env x=some (.lit (.string (c7 l))):=by rfl) (aj:aJ env y=some (.lit (.string (c7 m))):=by rfl) (av:b1 env ops o.guard=some true:=by rfl) (hd:o.dst=some d:=by rfl) (aN:Nat.blt d af=true:=by rfl) (ht:l=m->a6 P n0 ops.toArray rest ⟨(d,ab true) :: env,heap,next,af⟩ Q) (hf:¬ l=m->a6 P n0 ops.toArray rest ⟨(d,ab false) :: env,heap,next,af⟩ Q):a6 P n0 ops.toArray (o :: rest) ⟨env,heap,next,af⟩ Q:=by
 have h:=OJ (P:=P) (G:=[]) (st:=⟨env,heap,next,af⟩) ae U aj;rw[decide_eq_decide.2 E9] at h;by_cases ar:l=m
 ·rw[decide_eq_true ar] at h;exact ir av hd aN h (ht ar)
 ·rw[decide_eq_false ar] at h;exact ir av hd aN h (hf ar)
theorem AU {T cX:TypeId} {m:List UInt8} (ae:o.op = .binOp .neq T x y cX:=by rfl) (U:aJ env x=some (.lit (.string (c7 l))):=by rfl) (aj:aJ env y=some (.lit (.string (c7 m))):=by rfl) (av:b1 env ops o.guard=some true:=by rfl) (hd:o.dst=some d:=by rfl) (aN:Nat.blt d af=true:=by rfl) (ht:¬ l=m->a6 P n0 ops.toArray rest ⟨(d,ab true) :: env,heap,next,af⟩ Q) (hf:l=m->a6 P n0 ops.toArray rest ⟨(d,ab false) :: env,heap,next,af⟩ Q):a6 P n0 ops.toArray (o :: rest) ⟨env,heap,next,af⟩ Q:=by
 have h:=OK (P:=P) (G:=[]) (st:=⟨env,heap,next,af⟩) ae U aj;rw[decide_eq_decide.2 (not_congr E9)] at h;by_cases ar:l=m
 ·rw[decide_eq_false (fun h=>h ar)] at h;exact ir av hd aN h (hf ar)
 ·rw[decide_eq_true ar] at h;exact ir av hd aN h (ht ar)
theorem A6 {cX:TypeId} {m n:Bool} (ae:o.op = .binOp .eql T x y cX:=by rfl) (U:aJ env x=some (ab m):=by rfl) (aj:aJ env y=some (ab n):=by rfl) (aY:P.underlying T=some .bool:=by rfl) (av:b1 env ops o.guard=some true:=by rfl) (hd:o.dst=some d:=by rfl) (aN:Nat.blt d af=true:=by rfl) (ht:m=n->a6 P n0 ops.toArray rest ⟨(d,ab true) :: env,heap,next,af⟩ Q) (hf:¬ m=n->a6 P n0 ops.toArray rest ⟨(d,ab false) :: env,heap,next,af⟩ Q):a6 P n0 ops.toArray (o :: rest) ⟨env,heap,next,af⟩ Q:=by
 have h:=Rx (P:=P) (G:=[]) (st:=⟨env,heap,next,af⟩) ae U aj aY;by_cases ar:m=n
 ·rw[decide_eq_true ar] at h;exact ir av hd aN h (ht ar)
 ·rw[decide_eq_false ar] at h;exact ir av hd aN h (hf ar)
theorem AN (av:b1 env ops o.guard=some false:=by rfl) (hd:o.dst=none:=by rfl) (h:a6 P n0 ops.toArray rest ⟨env,heap,next,af⟩ Q):a6 P n0 ops.toArray (o :: rest) ⟨env,heap,next,af⟩ Q:=
 O1 av (by rw[hd];rfl) (by rw[hd];exact h)
theorem uj {vs cP:List V} (hf:Fn P f cP (ab (yes p))) (ae:o.op = .call { callee:=.value (.func f),args:=xs,argTypes:=ts }:=by rfl) (av:b1 env ops o.guard=some true:=by rfl) (hd:o.dst=some d:=by rfl) (aN:Nat.blt d af=true:=by rfl) (U : h3 env xs.toList = some vs := by rfl) (hb : lM.l9 0 vs = true := by rfl) (hw : ez vs cP := by ((repeat' (first | exact ez.nil | refine ez.cons ?_ ?_ | exact dt.refl _ | exact dt.nil | refine dt.agg ?_ | refine dt.bN ?_)); first | done | fail "args")) (ht : p -> a6 P n0 ops.toArray rest ⟨(d, ab true) :: env, heap, next, af⟩ Q) (hff : ¬ p -> a6 P n0 ops.toArray rest ⟨(d, ab false) :: env, heap, next, af⟩ Q) : a6 P n0 ops.toArray (o :: rest) ⟨env, heap, next, af⟩ Q :=
 Pn hf ae av hd aN U hb hw (fun h=>ht (Ez.1 h)) (fun h=>hff (KT.1 h))
theorem AO {v:V} (ae:o.op = .nilCheck x:=by rfl) (U:aJ env x=some v:=by rfl) (ak:KU v=true:=by rfl) (av:b1 env ops o.guard=some true:=by rfl) (hd:o.dst=some d:=by rfl) (aN:Nat.blt d af=true:=by rfl) (h:a6 P n0 ops.toArray rest ⟨(d,v) :: env,heap,next,af⟩ Q):a6 P n0 ops.toArray (o :: rest) ⟨env,heap,next,af⟩ Q:=ir av hd aN (RF ae U ak) h
theorem AQ {e:TypeId} {v:V} (ae:o.op = .convert T bT x:=by rfl) (U:aJ env x=some v:=by rfl) (ak:ij heap v=some (l.map bm):=by rfl) (aY:P.underlying T=some (.slice e):=by rfl) (he:P.underlying e=some (.int .u8):=by rfl) (ja:P.underlying bT=some .string:=by rfl) (av:b1 env ops o.guard=some true:=by rfl) (hd:o.dst=some d:=by rfl) (aN:Nat.blt d af=true:=by rfl) (h:a6 P n0 ops.toArray rest ⟨(d,.lit (.string (c7 l))) :: env,heap,next,af⟩ Q):a6 P n0 ops.toArray (o :: rest) ⟨env,heap,next,af⟩ Q:=ir av hd aN (Rz ae U ak aY he ja) h
theorem aaO :∀ i,i<(l.map bm).length->(bb (l.map bm) i).length=1:=fun i hi=>by
 rw[bY] at hi;rw[gV bm hi];rfl
theorem KV [Inhabited α] {f:α->List V} {l:List α} (h:∀ x,(f x).length=s):∀ i,i<(l.map f).length->(bb (l.map f) i).length=s:=fun i hi=>by
 rw[bY] at hi;rw[gV f hi];exact h _
theorem yN [Inhabited α] {f:α->List V} {v:V} {l r:List α} (m n:Nat) (br:a.getD 0=(m:Int)) (hb:b.getD l.length=(n:Int)) (hP:m<=n) (hn:n<=l.length) (hr:(l.take n).drop m=r) (ae:o.op = .slice t x gC hi none:=by rfl) (U:aJ env x=some v:=by rfl) (ak:uo heap v=some (l.map f):=by rfl) (gb:k2 env gC=some a:=by rfl) (iI:k2 env hi=some b:=by rfl) (ht:P.underlying t=some (.slice e):=by rfl) (aw:dr P e=some s:=by rfl) (jz:∀ x,(f x).length=s:=by intro x;rfl) (av:b1 env ops o.guard=some true:=by rfl) (hd:o.dst=some d:=by rfl) (aN:Nat.blt d af=true:=by rfl) (h:a6 P n0 ops.toArray rest ⟨(d,.ro (r.map f)) :: env,heap,next,af⟩ Q):a6 P n0 ops.toArray (o :: rest) ⟨env,heap,next,af⟩ Q:=by
 have e:((l.map f).take n).drop m=r.map f:=by rw[<- hr,List.map_drop,List.map_take]
 refine ir av hd aN ?_ h;rw[<- e];exact RD (l:=l.map f) ae U ak gb iI ht aw (KV jz) br (by rw[bY];exact hb) hP (by rw[bY];exact hn)
theorem CJ (m n:Nat) (br:a.getD 0=(m:Int)) (hb:b.getD l.length=(n:Int)) (hP:m<=n) (hn:n<=l.length) (hr:(l.take n).drop m=r) (ae:o.op = .slice t x gC hi none:=by rfl) (U:aJ env x=some (.lit (.string (c7 l))):=by rfl) (gb:k2 env gC=some a:=by rfl) (iI:k2 env hi=some b:=by rfl) (ht:P.underlying t=some .string:=by rfl) (av:b1 env ops o.guard=some true:=by rfl) (hd:o.dst=some d:=by rfl) (aN:Nat.blt d af=true:=by rfl) (h:a6 P n0 ops.toArray rest ⟨(d,.lit (.string (c7 r))) :: env,heap,next,af⟩ Q):a6 P n0 ops.toArray (o :: rest) ⟨env,heap,next,af⟩ Q:=by
 subst hr;exact ir av hd aN (RE ae U gb iI ht br hb hP hn) h
end
section
variable {af aA k bn:Nat} {ops:List Oper} {W:Nat->Nat->Bool} {rest:List Oper} {env:List (Nat×V)} {heap:List (Nat×Option aT)} {Q:aW->Prop}
theorem AW {T cX:TypeId} {m:List UInt8} (ae:o.op = .binOp .eql T x y cX:=by rfl) (U:aJ (bt (looks ops o) env) x=some (.lit (.string (c7 l))):=by rfl) (aj:aJ (bt (looks ops o) env) y=some (.lit (.string (c7 m))):=by rfl) (av:b1 (bt (looks ops o) env) ops o.guard=some true:=by rfl) (hd:o.dst=some d:=by rfl) (aN:Nat.blt d af=true:=by rfl) (ag:k+1=bn:=by(simp only[Nat.reduceAdd];rfl)) (hb:Nat.ble aA k=true:=by rfl) (ht:l=m->bf P af aA ops W bn rest ((d,ab true) :: env) heap Q) (hf:¬ l=m->bf P af aA ops W bn rest ((d,ab false) :: env) heap Q):bf P af aA ops W k (o :: rest) env heap Q:=by
 have h:=fun N=>OJ (P:=P) (G:=[]) (st:=⟨bt (looks ops o) env,[],N,af⟩) ae U aj
 simp only[decide_eq_decide.2 (E9 (l:=l) (m:=m))] at h;by_cases ar:l=m
 ·simp only[decide_eq_true ar] at h;exact jc av hd aN hb ag h (ht ar)
 ·simp only[decide_eq_false ar] at h;exact jc av hd aN hb ag h (hf ar)
theorem A7 {cX:TypeId} {m n:Bool} (ae:o.op = .binOp .eql T x y cX:=by rfl) (U:aJ (bt (looks ops o) env) x=some (ab m):=by rfl) (aj:aJ (bt (looks ops o) env) y=some (ab n):=by rfl) (aY:P.underlying T=some .bool:=by rfl) (av:b1 (bt (looks ops o) env) ops o.guard=some true:=by rfl) (hd:o.dst=some d:=by rfl) (aN:Nat.blt d af=true:=by rfl) (ag:k+1=bn:=by(simp only[Nat.reduceAdd];rfl)) (hb:Nat.ble aA k=true:=by rfl) (ht:m=n->bf P af aA ops W bn rest ((d,ab true) :: env) heap Q) (hf:¬ m=n->bf P af aA ops W bn rest ((d,ab false) :: env) heap Q):bf P af aA ops W k (o :: rest) env heap Q:=by
 have h:=fun N=>Rx (P:=P) (G:=[]) (st:=⟨bt (looks ops o) env,[],N,af⟩) ae U aj aY
 by_cases ar:m=n
 ·simp only[decide_eq_true ar] at h;exact jc av hd aN hb ag h (ht ar)
 ·simp only[decide_eq_false ar] at h;exact jc av hd aN hb ag h (hf ar)
theorem uk {vs cP:List V} (hf:Fn P f cP (ab (yes p))) (ae:o.op = .call { callee:=.value (.func f),args:=xs,argTypes:=ts }:=by rfl) (av:b1 (bt (looks ops o) env) ops o.guard=some true:=by rfl) (hd:o.dst=some d:=by rfl) (aN:Nat.blt d af=true:=by rfl) (U : h3 (bt (looks ops o) env) xs.toList = some vs := by rfl) (ry : lM.l9 0 vs = true := by rfl) (hw : ez vs cP := by ((repeat' (first | exact ez.nil | refine ez.cons ?_ ?_ | exact dt.refl _ | exact dt.nil | refine dt.agg ?_ | refine dt.bN ?_)); first | done | fail "args")) (ag : k + 1 = bn := by (simp only [Nat.reduceAdd]; rfl)) (hb : Nat.ble aA k = true := by rfl) (ht : p -> bf P af aA ops W bn rest ((d, ab true) :: env) heap Q) (hff : ¬ p -> bf P af aA ops W bn rest ((d, ab false) :: env) heap Q) : bf P af aA ops W k (o :: rest) env heap Q :=
 PE hf ae av hd aN U ry hw ag hb (fun h=>ht (Ez.1 h)) (fun h=>hff (KT.1 h))
theorem AP {v:V} (ae:o.op = .nilCheck x:=by rfl) (U:aJ (bt (looks ops o) env) x=some v:=by rfl) (ak:KU v=true:=by rfl) (av:b1 (bt (looks ops o) env) ops o.guard=some true:=by rfl) (hd:o.dst=some d:=by rfl) (aN:Nat.blt d af=true:=by rfl) (ag:k+1=bn:=by(simp only[Nat.reduceAdd];rfl)) (hb:Nat.ble aA k=true:=by rfl) (h:bf P af aA ops W bn rest ((d,v) :: env) heap Q):bf P af aA ops W k (o :: rest) env heap Q:=jc av hd aN hb ag (fun N=>RF ae U ak) h
theorem AS {e:TypeId} {v:V} (ae:o.op = .convert T bT x:=by rfl) (U:aJ (bt (looks ops o) env) x=some v:=by rfl) (ak:ij [] v=some (l.map bm):=by rfl) (aY:P.underlying T=some (.slice e):=by rfl) (he:P.underlying e=some (.int .u8):=by rfl) (ja:P.underlying bT=some .string:=by rfl) (av:b1 (bt (looks ops o) env) ops o.guard=some true:=by rfl) (hd:o.dst=some d:=by rfl) (aN:Nat.blt d af=true:=by rfl) (ag:k+1=bn:=by(simp only[Nat.reduceAdd];rfl)) (hb:Nat.ble aA k=true:=by rfl) (h:bf P af aA ops W bn rest ((d,.lit (.string (c7 l))) :: env) heap Q):bf P af aA ops W k (o :: rest) env heap Q:=jc av hd aN hb ag (fun N=>Rz ae U ak aY he ja) h
theorem yF [Inhabited α] {f:α->List V} {v:V} {l r:List α} (m n:Nat) (br:a.getD 0=(m:Int)) (cG:b.getD l.length=(n:Int)) (hP:m<=n) (hn:n<=l.length) (hr:(l.take n).drop m=r) (ae:o.op = .slice t x gC hi none:=by rfl) (U:aJ (bt (looks ops o) env) x=some v:=by rfl) (ak:uo [] v=some (l.map f):=by rfl) (gb:k2 (bt (looks ops o) env) gC=some a:=by rfl) (iI:k2 (bt (looks ops o) env) hi=some b:=by rfl) (ht:P.underlying t=some (.slice e):=by rfl) (aw:dr P e=some s:=by rfl) (jz:∀ x,(f x).length=s:=by intro x;rfl) (av:b1 (bt (looks ops o) env) ops o.guard=some true:=by rfl) (hd:o.dst=some d:=by rfl) (aN:Nat.blt d af=true:=by rfl) (ag:k+1=bn:=by(simp only[Nat.reduceAdd];rfl)) (hb:Nat.ble aA k=true:=by rfl) (h:bf P af aA ops W bn rest ((d,.ro (r.map f)) :: env) heap Q):bf P af aA ops W k (o :: rest) env heap Q:=by
 have e:((l.map f).take n).drop m=r.map f:=by rw[<- hr,List.map_drop,List.map_take]
 refine jc av hd aN hb ag (fun N=>?_) h;rw[<- e];exact RD (l:=l.map f) ae U ak gb iI ht aw (KV jz) br (by rw[bY];exact cG) hP (by rw[bY];exact hn)
end
end
section
variable {P:Program} {G:List Nat} {o:Oper} {st:aW} {n0:Nat}
def pZ (s:Nat):Nat->List V->List (List V)
 | 0,_=>[]
 | n+1,cs=>cs.take s :: pZ s n (cs.drop s)
def pf (z:List V):Nat->List V
 | 0=>[]
 | n+1=>z++pf z n
def r0 (P:Program) (e len:Nat) (c5:List (Nat×List V)):Option (List (List V)):=
 match dr P e,gZ P e with
 | some s,some z=>bif Nat.beq z.length s && Nat.blt 0 s then(match pT (fun i=>some (i * s,s)) (pf z len) c5 with
  | some cs=>some (pZ s len cs)
  | none=>none) else none
 | _,_=>none
theorem J9 (s:Nat):∀ (n:Nat) (cs:List V),(pZ s n cs).length=n
 | 0,_=>rfl
 | n+1,cs=>by simp[pZ,J9 s n]
theorem J8 (s:Nat):∀ (n:Nat) (cs:List V),cs.length=n * s -> ∀ i,i<n->(bb (pZ s n cs) i).length=s /\ ∀ j,j<s->bw (bb (pZ s n cs) i) j=bw cs (i * s+j)
 | 0,_,_,i,h=>by omega
 | n+1,cs,ao,i,hi=>by
  have hm:(n+1) * s=n * s+s:=nG n s
  cases i with
  | zero=>
   have e:bb (pZ s (n+1) cs) 0=cs.take s:=rfl;rw[e];refine ⟨by simp;omega,fun j ad=>?_⟩;unfold bw;rw[bZ,bZ,n7,al ad,Nat.zero_mul,fy]
  | succ i=>
   have e:bb (pZ s (n+1) cs) (i+1)=bb (pZ s n (cs.drop s)) i:=by simp[pZ,bb]
   rw[e];obtain ⟨J,aa⟩:=J8 s n (cs.drop s) (by simp;omega) i (by omega);refine ⟨J,fun j ad=>?_⟩;rw[aa j ad,zL];congr 1;rw[nG];omega
theorem aaP {ρ:Nat->Option Value} {w:World} {z:List V} {mb:Array Value} (h:tR ρ S w z mb) (ai:0<z.length) (n:Nat):tR ρ S w (pf z n) ((Array.range (n * z.length)).map (mb[· % mb.size]!)):=by
 have hlen:∀ n,(pf z n).length=n * z.length:=by
  intro n;induction n with
  | zero=>simp[pf]
  | succ n bU=>simp only[pf,eE,bU];rw[nG];omega
 have hc:∀ n j,j<n * z.length->bw (pf z n) j=bw z (j % z.length):=by
  intro n;induction n with
  | zero=>intro j ad;omega
  | succ n bU=>
   intro j ad;rw[nG] at ad;simp only[pf];unfold bw;rw[bZ,List.getElem?_append];split
   ·rename_i RG;rw[Nat.mod_eq_of_lt RG,bZ]
   ·rename_i RG;have:=bU (j - z.length) (by omega);unfold bw at this;rw[<- bZ,this,Nat.mod_eq_sub_mod (by omega:j >= z.length)]
 refine ⟨by simp[hlen],fun j ad=>?_⟩;rw[hlen] at ad;have hm:j % z.length<z.length:=Nat.mod_lt _ ai;have e:((Array.range (n * z.length)).map (mb[· % mb.size]!)).getD j undef=mb.getD (j % z.length) undef:=by
  rw[gg,Array.getElem?_map,Array.getElem?_range];simp only[ad,if_true,Option.map_some,tn];rw[h.1,gg,getElem!_pos mb _ (by rw[h.1];exact hm),l2 (by rw[h.1];exact hm)];rfl
 rw[hc n j ad,e];exact h.2 _ hm
theorem Qv {c5:List (Nat×List V)} {l:List (List V)} (h:r0 P e len c5=some l):∃ s z cs,dr P e=some s/\gZ P e=some z/\z.length=s/\0<s/\pT (fun i=>some (i * s,s)) (pf z len) c5=some cs/\l=pZ s len cs:=by
 unfold r0 at h;split at h
 ·rename_i s z aw aU
  cases hb:(Nat.beq z.length s && Nat.blt 0 s) with
  | false=>rw[hb] at h;cases h
  | true=>
   rw[hb] at h;simp only[cond_true] at h;simp only[fM] at hb;split at h
   ·rename_i cs hN;injection h with h;exact⟨s,z,cs,aw,aU,iF hb.1,bM hb.2,hN,h.symm⟩
   ·cases h
 ·cases h
theorem Qw {c5:List (Nat×List V)} {z cs:List V} {F:Nat->Prop} {base:Nat->Prop} {ρ:Nat->Option Value} {w0 w:World} {a:Act} (hH:eA F base ρ st.heap st.next w0 w) (ax:e0 ρ (bs F ρ st.heap) w st.af st.env a) (ht:P.underlying t=some (.slice e)) (aw:dr P e=some s) (aU:gZ P e=some z) (xS:z.length=s) (ai:0<s) (hlen:0<len) (jO:len * s<=2 ^ 24) (ar:mo st.env parts.toList=some c5) (hf:pT (fun i=>some (i * s,s)) (pf z len) c5=some cs) :
  ∃ us:Array Value,(Instr.buildSlice t len (parts.map fun (i,x)=>(i,a.eval x))).run P w = .ok (.slice (some ⟨w.heap.size,0,none⟩) len len) (w.alloc (.cells us e))/\tR ρ (bs F ρ st.heap) w cs us/\cs.length=len * s:=by
 obtain ⟨rs,rfl,ln,xz⟩:=DM aU;obtain ⟨aI,a7⟩:=IV ax (fun id x h=>(hH.sup id x h).2) ar;have aaQ:tR ρ (bs F ρ st.heap) w (rs.cells.toList.map .lit) rs.cells:=IC ln;have ma:=aaP aaQ (by omega) len;rw[xS] at ma;obtain ⟨qO,g1,g2⟩:=IT (place:=fun i=>some (i * s,s)) c5 _ _ _ cs ma aI a7 hf;unfold dr at aw
 cases hi:P.info? e with
 | none=>rw[hi] at aw;cases aw
 | some sE=>
  rw[hi] at aw;simp only[Option.map_some,ck] at aw;have aaR:sE.zero=some rs:=by
   have az:=xz w;simp[zeroValue,typeInfo,hi,Sem.run_bind,Sem.run_pure,program,Sem.run] at az
   cases w8:sE.zero with
   | none=>rw[w8] at az;cases az
   | some acW=>rw[w8] at az;injection az with az _;rw[az]
  subst aw;have hm:0<len * sE.size:=Nat.mul_pos hlen ai;have aaS:∀ n,(pf (rs.cells.toList.map V.lit) n).length=n * sE.size:=by
   intro n;induction n with
   | zero=>simp[pf]
   | succ n bU=>simp only[pf,eE,bU,xS];rw[nG];omega
  have lB:∀ (pl:Nat->Option (Nat×Nat)) (c5:List (Nat×List V)) (c r:List V),pT pl c c5=some r->r.length=c.length:=by
   intro pl c5;induction c5 with
   | nil=>intro c r h;simp only[pT,ck] at h;rw[h]
   | cons p c5 bU=>
    intro c r h;obtain ⟨i,v⟩:=p;simp only[pT] at h;split at h
    ·cases h
    ·rename_i off size _
     cases hb:(Nat.beq v.length size && Nat.ble (off+v.length) c.length) with
     | false=>rw[hb] at h;cases h
     | true=>rw[hb] at h;rw[bU _ _ h,sB]
  exact⟨qO,run_buildSlice w t e len _ qO sE rs ht hi aaR (by omega) (by omega) (by rw[Array.toList_map];exact g1),g2,by rw[lB _ _ _ _ hf,aaS]⟩
theorem aaT {l:List (List V)} (h:l.all (fun cs=>cs.all hQ)=true) (hi:i<l.length) (ad:j<(bb l i).length):hQ (bw (bb l i) j)=true:=by
 rw[lG] at h;have J:=h (bb l i) (by unfold bb;rw[bZ,eB hi];exact List.getElem_mem hi);rw[lG] at J;refine J _ ?_;unfold bw;rw[bZ,eB ad];exact List.getElem_mem ad
theorem aaU {w:World} {e:TypeId} (h:i<us.size):(w.alloc (.cells us e)).cell? ⟨w.heap.size,i,none⟩=some (us.getD i undef):=by
 have:=zN w us e;unfold World.cell?;simp only[this,Option.isSome_none,Bool.false_eq_true,if_false];rw[l2 h];simp[h]
theorem RH {c5:List (Nat×List V)} {l:List (List V)} (ae:o.op = .buildSlice t len parts) (hd:o.dst=some d) (aN:Nat.blt d st.af=true) (ht:P.underlying t=some (.slice e)) (ar:mo st.env parts.toList=some c5) (ao:r0 P e len c5=some l) (rF:l.all (fun cs=>cs.all hQ)=true) (hlen:Nat.blt 0 len=true) (jO:Nat.ble (len * (dr P e).getD 0) 16777216=true) :
  GStep P n0 o st { st with env:=(d,.ro l) :: st.env }:=fun F base w0 ρ a w hH ax=>by
 obtain ⟨s,z,cs,aw,aU,xS,ai,hf,rfl⟩:=Qv ao;rw[aw] at jO;obtain ⟨us,jB,hc,e7⟩:=Qw hH ax ht aw aU xS ai (bM hlen) (bM jO) ar hf;refine l5 (u:=.slice (some ⟨w.heap.size,0,none⟩) len len) (aF:=w.alloc (.cells us e)) ?_ ?_
 ·unfold execOp;rw[ae];simp only[Sem.run_bind,jB];rfl
 ·rw[hd];have hb:=tv w (.cells us e);have dc:dl (bs F ρ st.heap) w (w.alloc (.cells us e)):=fun b _ bW=>hb.block b bW
  refine ⟨ρ,hH.grow hb,(ax.mono dc (fun b h _=>h) (fun _ _ h=>h)).put (bM aN) (.pure ?_),fun _ _ h=>h,fun _ _=>rfl⟩;have hr:=J8 s len cs e7;have pX:=J9 s len cs;have YP:len<=16777216:=qJ (Nat.le_mul_of_pos_right len ai) (bM jO);have:=gn.ro (S:=bs F ρ st.heap) (w:=w.alloc (.cells us e)) (pZ s len cs) (some ⟨w.heap.size,0,none⟩) len s w.heap.size 0 (fun i j=>us.getD (i * s+j) undef) (by rw[pX];exact e4 _) qN ai (fun _=>⟨rfl,IM hH (e4 _)⟩)
   (fun i hi=>(hr i (by rw[pX] at hi;exact hi)).1)
   (fun i j hi ad=>by
    rw[pX] at hi;have J:(i+1) * s<=len * s:=kk s hi;have aa:(i+1) * s=i * s+s:=nG i s;rw[fy]
    exact aaU (by rw[hc.1,e7];omega))
   (fun i j hi ad=>by
    have oJ:=hi;rw[pX] at hi;have J:(i+1) * s<=len * s:=kk s hi;have aa:(i+1) * s=i * s+s:=nG i s;have Cu:=aaT rF oJ (by rw[(hr i hi).1];exact ad);rw[(hr i hi).2 j ad] at Cu ⊢
    exact yP ((hc.2 (i * s+j) (by rw[e7];omega)).1.mono dc (fun b h _=>h) (fun _ _ h=>h)) Cu)
  rwa [pX] at this
def v7 (P:Program) (xs nc:List V):List Field->Option Prop
 | []=>some True
 | f :: cY=>match P.underlying f.type,xs[f.offset]?,nc[f.offset]?,v7 P xs nc cY with
  | some (.int _),some (.lit (.int k m)),some (.lit (.int bn n)),some p=>bif decide (k=bn) then some (m=n/\p) else none
  | some .bool,some (.lit (.bool m)),some (.lit (.bool n)),some p=>some (m=n/\p)
  | some .string,some (.lit (.string m)),some (.lit (.string n)),some p=>some (m=n/\p)
  | _,_,_,_=>none
theorem Fb {ρ:Nat->Option Value} {S:Nat->Prop} {w:World} {xs nc:List V} {us vs:Array Value} (U:us.size=xs.length /\ ∀ j,j<xs.length->cT ρ S w (bw xs j) (us.getD j undef)) (aj:vs.size=nc.length /\ ∀ j,j<nc.length->cT ρ S w (bw nc j) (vs.getD j undef)) (d:Nat) :
  ∀ (cY : List Field) (p : Prop), v7 P xs nc cY = some p -> cY.all (fun f => !(f.name == "_")) = true -> ∃ b : Bool, (b = true ↔ p) /\ ∀ aF, (Op.eqFields (d + 1) us vs cY).run P aF = .ok b aF
 | [],p,h,_=>by
  simp only[v7,ck] at h;subst h;exact⟨true,by simp,fun aF=>by simp[Op.eqFields,Sem.run_pure]⟩
 | f :: cY,p,h,hn=>by
  simp only[List.all_cons,fM] at hn;have ct : f.name ≠ "_" := by
   have:=hn.1;simpa using this
  have get:∀ {mb:List V} {ws:Array Value} {u:Value},(ws.size=mb.length /\ ∀ j,j<mb.length->cT ρ S w (bw mb j) (ws.getD j undef))->mb[f.offset]? = some (.lit u)->ws[f.offset]? = some u:=by
   intro mb ws u aU h;have bW:=(ko.1 h).1;have:=aU.2 _ bW;have e:bw mb f.offset = .lit u:=by unfold bw;rw[bZ,h];rfl
   rw[e] at this;have:=fO this;rw[gg,l2 (by omega)] at this;rw[l2 (by omega)];simpa using this
  have xZ:∀ {mb:Array Value} {u:Value} {aF:World},lp P f.type=some false->mb[f.offset]? = some u->(part f.type mb f.offset).run P aF = .ok u aF:=by
   intro mb u aF br aU;simp[part,DI br,Sem.run_bind,aU,Sem.run_pure]
  simp only[v7] at h;split at h
  ·rename_i eW k m bn n q hu J aa hq
   cases ag:decide (k=bn) with
   | false=>rw[ag] at h;cases h
   | true=>
    rw[ag] at h;simp only[cond_true,ck] at h;have ag:=of_decide_eq_true ag;subst ag;subst h;obtain ⟨b,hb,hr⟩:=Fb U aj d cY q hq hn.2;have br:lp P f.type=some false:=by unfold lp;rw[hu]
    refine ⟨decide (m=n) && b,by rw[fM,decide_eq_true_eq,hb],fun aF=>?_⟩;have he:=run_equalIn_int (P:=P) aF d f.type k eW m n hu;rw[OI] at he;simp only[Op.eqFields,al ct,Sem.run_bind,xZ br (get U J),xZ br (get aj aa),Result.andThen_ok,he];by_cases hP:m=n
    ·simp[hP,hr]
    ·simp[hP,Sem.run_pure]
  ·rename_i m n q hu J aa hq;injection h with h;subst h;obtain ⟨b,hb,hr⟩:=Fb U aj d cY q hq hn.2;have br:lp P f.type=some false:=by unfold lp;rw[hu]
   refine ⟨decide (m=n) && b,by rw[fM,decide_eq_true_eq,hb],fun aF=>?_⟩;have he:=run_equalIn_bool (P:=P) aF d f.type m n hu;have e:(m == n)=decide (m=n):=by cases m <;> cases n <;> rfl
   rw[e] at he;simp only[Op.eqFields,al ct,Sem.run_bind,xZ br (get U J),xZ br (get aj aa),Result.andThen_ok,he];by_cases hP:m=n
   ·simp[hP,hr]
   ·simp[hP,Sem.run_pure]
  ·rename_i m n q hu J aa hq;injection h with h;subst h;obtain ⟨b,hb,hr⟩:=Fb U aj d cY q hq hn.2;have br:lp P f.type=some false:=by unfold lp;rw[hu]
   refine ⟨decide (m=n) && b,by rw[fM,decide_eq_true_eq,hb],fun aF=>?_⟩;have he:=run_equalIn_string (P:=P) aF d f.type m n hu;rw[It] at he;simp only[Op.eqFields,al ct,Sem.run_bind,xZ br (get U J),xZ br (get aj aa),Result.andThen_ok,he];by_cases hP:m=n
   ·simp[hP,hr]
   ·simp[hP,Sem.run_pure]
  ·cases h
theorem KW {ρ:Nat->Option Value} {w:World} {cs:List V} (h:cT ρ S w (.agg cs) u):∃ us,u = .agg us/\us.size=cs.length /\ ∀ j,j<cs.length->cT ρ S w (bw cs j) (us.getD j undef):=by
 cases h with
 | pure h=>cases h
 | agg hn h=>exact⟨_,rfl,hn,h⟩
theorem RI {xs nc:List V} (ae:o.op = .binOp .eql T x y cX) (U:aJ st.env x=some (.agg xs)) (aj:aJ st.env y=some (.agg nc)) (aY:P.underlying T=some (.struct cY)) (ar:v7 P xs nc cY.toList=some p) (hn : cY.toList.all (fun f => !(f.name == "_")) = true) (aw : P.stoodInHeld T = false) (hm : P.eqGuardType P.depth T = false) : (p -> bu P G o st (ab true)) /\ (¬ p -> bu P G o st (ab false)) := by
 have hf:P.fieldsOf T=cY:=by unfold Program.fieldsOf;rw[aY]
 have key:∀ Fc:Bool,(Fc=true ↔ p)->bu P G o st (ab Fc):=fun Fc hl=>iP fun F base w0 ρ a w hH ax=>by
  refine ⟨_,.pure (.lit _ rfl),fun aF=>?_⟩;obtain ⟨us,aI,a7,cC⟩:=KW (df ax U);obtain ⟨vs,f1,f2,f3⟩:=KW (df ax aj);obtain ⟨b,hb,hr⟩:=Fb (P:=P) ⟨a7,cC⟩ ⟨f2,f3⟩ 9998 cY.toList p ar hn;have KX:b=Fc:=by rw[Bool.eq_iff_iff,hb,hl]
  unfold execOp;rw[ae];simp only[];rw[aI,f1];have J:=run_eqGuard_agg (P:=P) aF .eql T x y us vs hm;have aa:=run_eql_struct (P:=P) aF T us vs;rw[run_equalIn_agg aF 9999 T us vs (by rw[hf];exact aY) aw,hf,hr] at aa;simp only[Sem.run_bind,J,Result.andThen_ok,aa,KX];rfl
 exact⟨fun h=>key true (by simp[h]),fun h=>key false (by simp[h])⟩
section
variable {ops:List Oper} {rest:List Oper} {env:List (Nat×V)} {heap:List (Nat×Option aT)} {next af:Nat} {Q:aW->Prop}
inductive lc:List (List V)->List (List V)->Prop
 | nil:lc [] []
 | cons {c d:List V} {cs ds:List (List V)} (h:Norm c d) (aw:lc cs ds):lc (c :: cs) (d :: ds)
theorem lc.eq {cs ds:List (List V)} (h:lc cs ds):cs=ds:=by
 induction h with
 | nil=>rfl
 | cons h aw bU=>rw[h.eq,bU]
theorem AK {T cX:TypeId} {k:IntKind} {n:Int} (ae:o.op = .binOp .quo T x y cX:=by rfl) (U:aJ env x=some (.lit (.int k m)):=by rfl) (aj:aJ env y=some (.lit (.int k n)):=by rfl) (hm:0<=m:=by omega) (hn:0<n:=by omega) (hw:k.wrap (m / n)=m / n:=by first|(rw[IntKind.wrap_i64];omega)|(rw[IntKind.wrap_u64];omega)|(rw[IntKind.wrap_u8];omega)) (av:b1 env ops o.guard=some true:=by rfl) (hd:o.dst=some d:=by rfl) (aN:Nat.blt d af=true:=by rfl) (h:a6 P n0 ops.toArray rest ⟨(d,.lit (.int k (m / n))) :: env,heap,next,af⟩ Q):a6 P n0 ops.toArray (o :: rest) ⟨env,heap,next,af⟩ Q:=by
 have:=DF (P:=P) (G:=[]) (st:=⟨env,heap,next,af⟩) ae U aj (by omega);rw[Int.tdiv_eq_ediv_of_nonneg hm,hw] at this;exact ir av hd aN this h
theorem AL {T cX:TypeId} {k:IntKind} {n:Int} (ae:o.op = .binOp .rem T x y cX:=by rfl) (U:aJ env x=some (.lit (.int k m)):=by rfl) (aj:aJ env y=some (.lit (.int k n)):=by rfl) (hm:0<=m:=by omega) (hn:0<n:=by omega) (av:b1 env ops o.guard=some true:=by rfl) (hd:o.dst=some d:=by rfl) (aN:Nat.blt d af=true:=by rfl) (h:a6 P n0 ops.toArray rest ⟨(d,.lit (.int k (m % n))) :: env,heap,next,af⟩ Q):a6 P n0 ops.toArray (o :: rest) ⟨env,heap,next,af⟩ Q:=by
 have:=DG (P:=P) (G:=[]) (st:=⟨env,heap,next,af⟩) ae U aj (by omega);rw[Int.tmod_eq_emod_of_nonneg hm] at this;exact ir av hd aN this h
theorem AV {cX:TypeId} {xs nc:List V} (ae:o.op = .binOp .eql T x y cX:=by rfl) (U:aJ env x=some (.agg xs):=by rfl) (aj:aJ env y=some (.agg nc):=by rfl) (aY:P.underlying T=some (.struct cY):=by rfl) (ar:v7 P xs nc cY.toList=some p:=by rfl) (av:b1 env ops o.guard=some true:=by rfl) (hd:o.dst=some d:=by rfl) (aN:Nat.blt d af=true:=by rfl) (hn : cY.toList.all (fun f => !(f.name == "_")) = true := by kernel_rfl) (aw : P.stoodInHeld T = false := by kernel_rfl) (hm : P.eqGuardType P.depth T = false := by kernel_rfl) (ht:p->a6 P n0 ops.toArray rest ⟨(d,ab true) :: env,heap,next,af⟩ Q) (hf:¬ p->a6 P n0 ops.toArray rest ⟨(d,ab false) :: env,heap,next,af⟩ Q):a6 P n0 ops.toArray (o :: rest) ⟨env,heap,next,af⟩ Q:=by
 have h:=RI (P:=P) (G:=[]) (st:=⟨env,heap,next,af⟩) ae U aj aY ar hn aw hm;by_cases ar:p
 ·exact ir av hd aN (h.1 ar) (ht ar)
 ·exact ir av hd aN (h.2 ar) (hf ar)
theorem tJ {c5:List (Nat×List V)} {l dW:List (List V)} (ae:o.op = .buildSlice t len parts:=by rfl) (ht:P.underlying t=some (.slice e):=by rfl) (ar:mo env parts.toList=some c5:=by rfl) (ao:r0 P e len c5=some l:=by rfl) (hv:lc l dW:=by repeat'(first|exact lc.nil|apply lc.cons|exact Norm.nil|apply Norm.cons)) (rF:dW.all (fun cs=>cs.all hQ)=true:=by rfl) (av:b1 env ops o.guard=some true:=by rfl) (hd:o.dst=some d:=by rfl) (aN:Nat.blt d af=true:=by rfl) (hlen:Nat.blt 0 len=true:=by rfl) (jO:Nat.ble (len * (dr P e).getD 0) 16777216=true:=by rfl) (h:a6 P n0 ops.toArray rest ⟨(d,.ro dW) :: env,heap,next,af⟩ Q):a6 P n0 ops.toArray (o :: rest) ⟨env,heap,next,af⟩ Q:=by
 have e:=hv.eq;subst e;exact kn av (RH (st:=⟨env,heap,next,af⟩) ae hd aN ht ar ao rF hlen jO) h
end
end
section
variable {P:Program} {G:List Nat} {o:Oper} {st:aW} {n0:Nat}
theorem RJ {e:TypeId} (ae:o.op = .convert T bT x) (hd:o.dst=some d) (aN:Nat.blt d st.af=true) (U:aJ st.env x=some (.lit (.string (c7 l)))) (aY:P.underlying T=some .string) (ja:P.underlying bT=some (.slice e)) (he:P.underlying e=some (.int .u8)) (h63:l.length<=140737488355328) :
  GStep P n0 o st { st with env:=(d,.ro (l.map bm)) :: st.env }:=fun F base w0 ρ a w hH ax=>by
 have jB:=run_bytes_of_string (P:=P) w T bT e (c7 l) aY ja he;have cZ:(c7 l).size=l.length:=vZ l;generalize Fa:grownCap w (c7 l).size 0 e=cap at jB;have hR:l.length<=cap:=by rw[<- Fa,<- cZ];exact grownCap_ge w _ 0 e
 have B6:cap<=maxLen:=by rw[<- Fa];exact grownCap_le_maxLen w _ 0 e qN
 rw[cZ] at jB;have kX:∀ i,i<l.length->(bytesRow (c7 l) cap).getD i undef = .int .u8 ((l.getD i default).toNat:Int):=fun i hi=>by
  unfold bytesRow;rw[gg,Array.getElem?_append_left (by simp[c7,hi]),Array.getElem?_map];have:(c7 l).data[i]? = some (l.getD i default):=by
   simp only[c7,List.getElem?_toArray,eB hi,bZ,tn]
  rw[this];rfl
 have wD:l.length<=(bytesRow (c7 l) cap).size:=by unfold bytesRow;simp[c7]
 generalize bytesRow (c7 l) cap=R at jB kX wD;generalize (R.size,R.size+1)=jq at jB;have hb:Below w.heap.size w (w.drew.alloc (.cells R e jq)):=by
  have:=tv w.drew (.cells R e jq);exact⟨this.os,this.tape,this.output,this.size,this.block⟩
 have p0:(w.drew.alloc (.cells R e jq)).heap[w.heap.size]? = some (.cells R e jq):=heap_alloc_new w.drew _;have dc:dl (bs F ρ st.heap) w (w.drew.alloc (.cells R e jq)):=fun b _ bW=>hb.block b bW
 refine l5 (u:=.slice (some ⟨w.heap.size,0,none⟩) l.length cap) (aF:=w.drew.alloc (.cells R e jq)) ?_ ?_
 ·unfold execOp;rw[ae];simp only[];rw[fO (df ax U)];simp only[Sem.run_bind,jB];rfl
 ·rw[hd];refine ⟨ρ,hH.grow hb,(ax.mono dc (fun b h _=>h) (fun _ _ h=>h)).put (bM aN) (.pure ?_),fun _ _ h=>h,fun _ _=>rfl⟩;have:=gn.ro (S:=bs F ρ st.heap) (w:=w.drew.alloc (.cells R e jq)) (l.map bm) (some ⟨w.heap.size,0,none⟩) cap 1 w.heap.size 0 (fun i j=>.int .u8 ((l.getD i default).toNat:Int)) (by rw[bY];exact hR) B6 (by omega) (fun _=>⟨rfl,IM hH (e4 _)⟩) aaO
   (fun i j hi ad=>by
    rw[bY] at hi;have sT:j=0:=by omega
    subst sT;rw[Nat.mul_one,kq,fy];unfold World.cell?;simp only[p0,Option.isSome_none,Bool.false_eq_true,if_false];have:=kX i hi;rw[gg,l2 (by omega)] at this;rw[l2 (by omega)]
    simpa using this)
   (fun i j hi ad=>by
    rw[bY] at hi;have sT:j=0:=by omega
    subst sT;rw[gV bm hi]
    exact .lit _ rfl)
  rwa [bY] at this
theorem aal {k:Nat} {xX:IntKind} {m1 m2:Int} (ae:o.op = .makeSlice t x y) (hd:o.dst=some d) (aN:Nat.blt d st.af=true) (U:aJ st.env x=some (.lit (.int xX m1))) (aj:aJ st.env y=some (.lit (.int rG m2))) (J:m1=(n:Int)) (aa:m2=(n:Int)) (ht:P.underlying t=some (.slice e)) (aw:dr P e=some 1) (hb:jw P e=some by_) (aU:gZ P e=some [.lit z]) (fp:by_ * n<=281474976710656) (h63:n<=9223372036854775807):kU P k o st (st.newAt k d (.own k) (.row e 1 (List.replicate n [.lit z]))):=fun F base w0 ρ a w hH ax fY ag=>by
 subst J aa;obtain ⟨i,rs,hi,kZ,cZ,hl,tS⟩:=DW aw hb ⟨_,aU,rfl⟩;obtain ⟨Fe,aI,a7,cC⟩:=DM aU;have ma:Fe = rs:=by
  have az:=cC w;simp[zeroValue,typeInfo,hi,kZ,Sem.run_bind,Sem.run_pure,program,Sem.run] at az;exact az.symm
 subst ma;have RK:Fe.cells = #[z]:=by
  apply Array.toList_inj.1;generalize Fe.cells.toList=L at aI
  match L,aI with
  | [u],aI=>injection aI with aI;injection aI with aI;rw[aI]
 have lH:z.oneCell' = true:=by
  rw[RK] at a7;simpa using a7
 have cG:(i.bytes:Int) * (n:Int)<=281474976710656:=by
  rw[hl];have h:((by_ * n:Nat):Int)<=281474976710656:=by omega
  rwa [Int.natCast_mul] at h
 have hr:=run_make (P:=P) w t e i Fe ht hi kZ xX rG n n (by omega) (Int.le_refl _) cG (by omega);rw[Int.toNat_natCast,cZ,Nat.mul_one,RK] at hr;have aaV:∀ j,j<n->(madeCells #[z] n).getD j undef=z:=fun j ad=>by
  have mD:j % 1=0:=Nat.mod_one j;simp[madeCells,ad,mD]
 refine l5 (u:=.slice (some ⟨w.heap.size,0,none⟩) n n) (aF:=w.alloc (.cells (madeCells #[z] n) e)) ?_ ?_
 ·unfold execOp;rw[ae];simp only[];rw[fO (df ax U),fO (df ax aj)];simp only[Sem.run_bind,hr];rfl
 ·rw[hd];refine u6 hH ax fY ag (tv _ _) (fun _ b hb=>by simp only[dU,ck] at hb;omega) (bM aN) rfl (fun S hS _ dc=>?_) (fun S=>.own (gO _ _ _));have Bx:=size_madeCells #[z] n;have he:∀ i,i<n->bb (List.replicate n [V.lit z]) i=[V.lit z]:=fun i hi=>by
   unfold bb;rw[bZ,List.getElem?_replicate,al hi];rfl
  refine ⟨by omega,_,(madeCells #[z] n).toList,gO _ _ _,⟨⟨by rw[sY,pQ,Bx];omega,.inr ⟨w.heap.size,n,madeCells #[z] n,by rw[sY],cm _,zN _ _ _,by rw[sY];exact e4 _,by unfold maxLen;omega,by rw[Bx];omega,?_⟩⟩,fun b hb=>?_⟩,fun i hi=>?_,fun i j hi ad=>?_⟩
  ·rw[sY,j9];rw[pQ,Bx];omega
  ·simp only[dU,ck] at hb;exact hH.fl b (by omega)
  ·rw[sY] at hi;rw[he i hi];rfl
  ·rw[sY] at hi;have sT:j=0:=by omega
   subst sT;rw[he i hi];refine ⟨z,?_,.lit z lH,lH⟩;have:=aaV i hi;rw[gg,l2 (by rw[Bx];exact hi)] at this;rw[Nat.mul_one,kq,tr,l2 (by rw[Bx];exact hi)];simpa using this
section
variable {ops:List Oper} {rest:List Oper} {env:List (Nat×V)} {heap:List (Nat×Option aT)} {next af:Nat} {Q:aW->Prop}
theorem A1 {e:TypeId} (ae:o.op = .convert T bT x:=by rfl) (U:aJ env x=some (.lit (.string (c7 l))):=by rfl) (aY:P.underlying T=some .string:=by rfl) (ja:P.underlying bT=some (.slice e):=by rfl) (he:P.underlying e=some (.int .u8):=by rfl) (h63:l.length<=140737488355328:=by omega) (av:b1 env ops o.guard=some true:=by rfl) (hd:o.dst=some d:=by rfl) (aN:Nat.blt d af=true:=by rfl) (h:a6 P n0 ops.toArray rest ⟨(d,.ro (l.map bm)) :: env,heap,next,af⟩ Q):a6 P n0 ops.toArray (o :: rest) ⟨env,heap,next,af⟩ Q:=
 kn av (RJ (st:=⟨env,heap,next,af⟩) ae hd aN U aY ja he h63) h
theorem lT {l r:List (List V)} {vs:List V} {v:V} (hi:i<l.length) (hr:l.set i (setAt j vs (bb l i))=r) (ae:o.op = .store T x y:=by rfl) (hd:o.dst=none:=by rfl) (U:aJ env x=some (.ptr id i s j):=by rfl) (hh:aM heap id=some (.row e s l):=by rfl) (aj:aJ env y=some v:=by rfl) (hf:flat v=some vs:=by rfl) (ar:vs.all hQ=true:=by rfl) (aY:dr P T=some vs.length:=by rfl) (ao:Nat.ble (j+vs.length) s=true:=by rfl) (av:b1 env ops o.guard=some true:=by rfl) (h:a6 P n0 ops.toArray rest ⟨env,(id,some (.row e s r)) :: heap,next,af⟩ Q):a6 P n0 ops.toArray (o :: rest) ⟨env,heap,next,af⟩ Q:=by
 subst hr;exact kn av (O0 (st:=⟨env,heap,next,af⟩) ae hd U hh hi aj hf ar aY ao) h
theorem kI {l m r:List (List V)} {v:V} (hr:l++m=r) (hm:∀ i,i<m.length->(bb m i).length=s) (fp:(l.length+m.length) * by_<=140737488355328) (h63:l.length+m.length<=9223372036854775807) (ae:o.op = .call { callee:=.builtin .append,args:=#[x,y],argTypes:=#[t,t] }:=by rfl) (U:aJ env x=some (.own id):=by rfl) (hh:aM heap id=some (.row e s l):=by rfl) (aj:aJ env y=some v:=by rfl) (ak:ij heap v=some m:=by rfl) (ht:P.underlying t=some (.slice e):=by rfl) (aw:dr P e=some s:=by rfl) (hb:jw P e=some by_:=by rfl) (aU:∃ z,gZ P e=some z/\z.length=s:=by exact⟨_,rfl,rfl⟩) (av:b1 env ops o.guard=some true:=by rfl) (hd:o.dst=some d:=by rfl) (aN:Nat.blt d af=true:=by rfl) (hn0:Nat.ble n0 next=true:=by rfl) (h:a6 P n0 ops.toArray rest ⟨(d,.own next) :: env,(next,some (.row e s r)) :: (id,none) :: heap,next+1,af⟩ Q):a6 P n0 ops.toArray (o :: rest) ⟨env,heap,next,af⟩ Q:=by
 subst hr;exact kn av (W7 (st:=⟨env,heap,next,af⟩) ae hd aN hn0 U hh aj ak ht aw hb aU hm fp h63) h
theorem aaW {r:List (List V)} {l:List Oper} (hh:aM heap id=some (.row e s r):=by rfl) (h:a6 P n0 ops.toArray l ⟨env,(id,some (.dY r)) :: heap,next,af⟩ Q):a6 P n0 ops.toArray l ⟨env,heap,next,af⟩ Q:=
 C1 (oB (st:=⟨env,heap,next,af⟩) hh) h
end
end
section
variable {P:Program} {o:Oper} {st:aW} {n0:Nat}
theorem KO {st:aW} (aa:bq.next=st.next) (az:bq.af=st.af) (hc:∀ t v,cW bq.env t=some v->cW st.env t=some v) (hh:∀ t v,aM bq.heap t=some v->aM st.heap t=some v):cg P n0 st bq:=
 fun F base w0 ρ a w hH ax=>by
  have aw:∀ b,bs F ρ st.heap b->bs F ρ bq.heap b:=fun b h=>⟨h.1,fun id B u an ae hu=>h.2 id B u (hh id B an) ae hu⟩
  refine ⟨ρ,⟨⟨hH.below,hH.fl,by rw[aa];exact hH.sup,fun id dk B bd u dD b an b0=>hH.inj id dk B bd u dD b (hh _ _ an) (hh _ _ b0),fun id B an=>?_⟩,hH.dX⟩,⟨by rw[az];exact ax.size,ax.defers,fun t v ak=>?_⟩,fun _ _=>rfl⟩
  ·exact(hH.cJ id B (hh id B an)).mono (dl.refl _ _) (fun b h _=>aw b h) (fun _ _ h=>h) (fun _ _ _ _ _ _=>rfl)
  ·exact(ax.slot t v (hc t v ak)).mono (dl.refl _ _) (fun b h _=>aw b h) (fun _ _ h=>h)
theorem KN {l:List (List V)} {st:aW} (ht:cW st.env t=some (.own id)) (hh:aM st.heap id=some (.dY l)):cg P n0 st { st with env:=(t,.ro l) :: st.env }:=
 fun F base w0 ρ a w hH ax=>by
  refine ⟨ρ,hH,⟨ax.size,ax.defers,fun x v U=>?_⟩,fun _ _=>rfl⟩;simp only[cW] at U
  cases hb:Nat.beq t x with
  | true=>
   rw[hb] at U;simp only[cond_true,ck] at U;subst U;have:=iF hb;subst this;obtain ⟨v,J,aa,_⟩:=hH.cJ _ _ hh;rw[j8 (ax.slot t _ ht)] at J;injection J with J;rw[J];exact .pure aa
  | false=>
   rw[hb] at U;exact ax.slot x v U
theorem KM {k:Nat} {x0 KY:aW} (h:kU P k o st x0) (ao:cg P x0.next x0 KY) (hn:KY.next=x0.next) (Vw:x0.next=st.next):kU P k o st KY:=fun F base w0 ρ a w hH ax fY ag=>by
 refine tN ?_ (h F base w0 ρ a w hH ax fY ag);rintro hx aF ⟨bl,J,aa,az,bk⟩;obtain ⟨mW,aL,aS,bi⟩:=ao F base w0 bl hx aF J aa;have RL:∀ {r:Nat->Option Value} {n id:Nat},(∀ id u,r id=some u->id<n/\u.oneCell' = true)->n<=id->r id=none:=fun aw hid=>by
  rename_i r n id
  cases hr:r id with
  | none=>rfl
  | some u=>have:=(aw id u hr).1;omega
 have rk:∀ id,mW id=bl id:=fun id=>by
  by_cases hid:id<x0.next
  ·exact bi id hid
  ·rw[RL aL.sup (by rw[hn];omega),RL J.sup (by omega)]
 exact⟨mW,aL,aS,fun id u hu=>by rw[rk];exact az id u hu,fun id hid=>by rw[rk];exact bk id hid⟩
theorem KL {k:Nat} (h:aM st.heap k=none->kU P k o st bq):kU P k o st bq:=fun F base w0 ρ a w hH ax fY ag=>by
 cases an:aM st.heap k with
 | none=>exact h an F base w0 ρ a w hH ax fY ag
 | some B=>
  obtain ⟨u,hu⟩:=hH.nd an;rw[fY] at hu;cases hu
theorem RM {k:Nat} {l m:List (List V)} {v:V} (ae:o.op = .call { callee:=.builtin .append,args:=#[x,y],argTypes:=#[t,t] }) (hd:o.dst=some d) (aN:Nat.blt d st.af=true) (U:aJ st.env x=some (.own id)) (hh:aM st.heap id=some (.row e s l)) (aj:aJ st.env y=some v) (ak:ij st.heap v=some m) (ht:P.underlying t=some (.slice e)) (aw:dr P e=some s) (hb:jw P e=some by_) (aU:∃ z,gZ P e=some z/\z.length=s) (hm:∀ i,i<m.length->(bb m i).length=s) (fp:(l.length+m.length) * by_<=140737488355328) (h63:l.length+m.length<=9223372036854775807) :
  kU P k o st { env:=(d,.ro (l++m)) :: st.env,heap:=(id,none) :: st.heap,next:=st.next,af:=st.af }:=by
 refine KL (fun Bu=>?_);refine KM (IZ ae hd aN U hh aj ak ht aw hb aU hm fp h63) ?_ rfl rfl;have J:cg P st.next { env:=(d,.own k) :: st.env,heap:=(k,some (.row e s (l++m))) :: (id,none) :: st.heap,next:=st.next,af:=st.af } _:=oB (id:=k) (e:=e) (s:=s) (l:=l++m) (by simp[aM])
 refine J.trans ?_;have aa:cg P st.next { env:=(d,.own k) :: st.env,heap:=(k,some (.dY (l++m))) :: (k,some (.row e s (l++m))) :: (id,none) :: st.heap,next:=st.next,af:=st.af } _:=KN (t:=d) (id:=k) (l:=l++m) (by simp[cW]) (by simp[aM])
 refine aa.trans ?_;refine KO rfl rfl (fun t v ak=>?_) (fun j B an=>?_)
 ·simp only[cW] at ak ⊢
  cases hb:Nat.beq d t with
  | true=>rw[hb] at ak;exact ak
  | false=>rw[hb] at ak;exact ak
 ·rw[cl] at an;split at an
  ·cases an
  ·rename_i jV;have ct:k≠j:=fun e=>by rw[<- e,Bu] at an;cases an
   show aM ((k,some (aT.dY (l++m))) :: (k,some (aT.row e s (l++m))) :: (id,none) :: st.heap) j=_;rw[cl,ah ct,cl,ah ct,cl,ah jV];exact an
theorem KZ {k:Nat} {m:List (List V)} {v:V} (ae:o.op = .call { callee:=.builtin .append,args:=#[x,y],argTypes:=#[t,t] }) (hd:o.dst=some d) (aN:Nat.blt d st.af=true) (U:aJ st.env x=some aX) (aj:aJ st.env y=some v) (ak:ij st.heap v=some m) (ht:P.underlying t=some (.slice e)) (aw:dr P e=some s) (ai:Nat.blt 0 s=true) (hb:jw P e=some by_) (aU:∃ z,gZ P e=some z/\z.length=s) (hm:∀ i,i<m.length->(bb m i).length=s) (fp:m.length * by_<=140737488355328) (h63:m.length<=9223372036854775807) :
  kU P k o st (st.newAt k d (.own k) (.row e s m)):=fun F base w0 ρ a w hH ax fY ag=>by
 obtain ⟨i,z,hi,kZ,cZ,hl,tS⟩:=DW aw hb aU;have ai:=bM ai;have lN:=fO (df ax U);obtain ⟨A,c,news,hu,om,dC,hrel⟩:=IX hH.toHRel0 (df ax aj) ak hm ai;have lH:=Pk ai om hrel;obtain ⟨cH,aF,hr,kr,av,hB⟩:=IY (P:=P) (ty:=o.type) ht hi kZ cZ hl tS ai (World.ownsRow_nil w 0 e s) (c:=c) om dC lH qN (by rw[fy];exact fp) (cm _);rw[fy,kg] at kr;have an:Below w.heap.size w aF:=⟨av.os,av.tape,av.output,av.size,fun j ad=>av.block j ad (by simp[Value.ownBlock])⟩;have p0:∀ b,dU cH = some b->w.heap.size<=b:=fun b hb=>hB.elim (fun h=>by rw[h] at hb;simp[dU] at hb) (fun h=>h b hb)
 have z7:cH.oneCell' = true:=by rcases kr.2 with⟨rfl,_⟩ | ⟨_,_,_,rfl,_⟩ <;> rfl
 refine l5 (u:=cH) (aF:=aF) ?_ ?_
 ·unfold execOp;rw[ae];simp only[resolve,invoke,builtin,Sem.run_bind,Sem.run_pure,Result.andThen_ok,List.map_toArray,iM,sZ,hu,lN,hr]
 ·rw[hd];refine u6 hH ax fY ag an (fun _ b hb=>p0 b hb) (bM aN) z7 (fun S hS _ dc=>?_) (fun S=>.own (gO _ _ _));refine ⟨ai,cH,news,gO _ _ _,⟨kr,fun b hb=>hH.fl b (p0 b hb)⟩,hm,fun i j hi ad=>?_⟩;obtain ⟨u,g1,g2⟩:=hrel i j hi ad;exact⟨u,g1,g2.mono dc hS,g2.one⟩
theorem RN {k:Nat} {m:List (List V)} {v:V} (ae:o.op = .call { callee:=.builtin .append,args:=#[x,y],argTypes:=#[t,t] }) (hd:o.dst=some d) (aN:Nat.blt d st.af=true) (U:aJ st.env x=some aX) (aj:aJ st.env y=some v) (ak:ij st.heap v=some m) (ht:P.underlying t=some (.slice e)) (aw:dr P e=some s) (ai:Nat.blt 0 s=true) (hb:jw P e=some by_) (aU:∃ z,gZ P e=some z/\z.length=s) (hm:∀ i,i<m.length->(bb m i).length=s) (fp:m.length * by_<=140737488355328) (h63:m.length<=9223372036854775807) :
  kU P k o st { env:=(d,.ro m) :: st.env,heap:=st.heap,next:=st.next,af:=st.af }:=by
 refine KL (fun Bu=>?_);refine KM (KZ ae hd aN U aj ak ht aw ai hb aU hm fp h63) ?_ rfl rfl;have J:cg P st.next { env:=(d,.own k) :: st.env,heap:=(k,some (.row e s m)) :: st.heap,next:=st.next,af:=st.af } _:=oB (id:=k) (e:=e) (s:=s) (l:=m) (by simp[aM])
 refine J.trans ?_;have aa:cg P st.next { env:=(d,.own k) :: st.env,heap:=(k,some (.dY m)) :: (k,some (.row e s m)) :: st.heap,next:=st.next,af:=st.af } _:=KN (t:=d) (id:=k) (l:=m) (by simp[cW]) (by simp[aM])
 refine aa.trans ?_;refine KO rfl rfl (fun t v ak=>?_) (fun j B an=>?_)
 ·simp only[cW] at ak ⊢
  cases hb:Nat.beq d t with
  | true=>rw[hb] at ak;exact ak
  | false=>rw[hb] at ak;exact ak
 ·have ct:k≠j:=fun e=>by rw[<- e,Bu] at an;cases an
  show aM ((k,some (aT.dY m)) :: (k,some (aT.row e s m)) :: st.heap) j=_;rw[cl,ah ct,cl,ah ct];exact an
theorem aaX (ht:P.underlying t=some (.slice e)) (aw:dr P e=some s) (w:World):(Instr.buildSlice t 0 #[]).run P w = .ok (.slice (some ⟨w.heap.size,0,none⟩) 0 0) (w.alloc (.cells #[] e)):=by
 simp only[Instr.buildSlice,Sem.run_bind,run_underlying ht,Result.andThen_ok,tM aw,Nat.zero_mul];simp[Instr.fill,newRow,Sem.run_bind,Sem.run_pure,show Array.range 0 = #[] from rfl]
theorem RO {k:Nat} (ae:o.op = .buildSlice t 0 #[]) (hd:o.dst=some d) (aN:Nat.blt d st.af=true) (ht:P.underlying t=some (.slice e)) (aw:dr P e=some s) (ai:Nat.blt 0 s=true) :
  kU P k o st (st.newAt k d (.own k) (.row e s [])):=fun F base w0 ρ a w hH ax fY ag=>by
 refine l5 (u:=.slice (some ⟨w.heap.size,0,none⟩) 0 0) (aF:=w.alloc (.cells #[] e)) ?_ ?_
 ·unfold execOp;rw[ae];have:=aaX ht aw w;simp only[List.map_toArray,sZ,Sem.run_bind,this];rfl
 ·rw[hd];refine u6 hH ax fY ag (tv _ _) (fun _ b hb=>by simp only[dU,ck] at hb;omega) (bM aN) rfl (fun S hS _ dc=>?_) (fun S=>.own (gO _ _ _));refine ⟨bM ai,_,[],gO _ _ _,⟨⟨by simp,.inr ⟨w.heap.size,0,#[],rfl,cm _,zN _ _ _,e4 _,by unfold maxLen;omega,by simp,by simp⟩⟩,fun b hb=>?_⟩,fun i hi=>by simp at hi,fun i j hi=>by simp at hi⟩;simp only[dU,ck] at hb;exact hH.fl b (by omega)
section
variable {ops:List Oper} {rest:List Oper} {env:List (Nat×V)} {heap:List (Nat×Option aT)} {next af:Nat} {Q:aW->Prop}
theorem NW {l m r:List (List V)} {v:V} (hr:l++m=r) (hm:∀ i,i<m.length->(bb m i).length=s) (fp:(l.length+m.length) * by_<=140737488355328) (h63:l.length+m.length<=9223372036854775807) (ae:o.op = .call { callee:=.builtin .append,args:=#[x,y],argTypes:=#[t,t] }:=by rfl) (U:aJ env x=some (.own id):=by rfl) (hh:aM heap id=some (.row e s l):=by rfl) (aj:aJ env y=some v:=by rfl) (ak:ij heap v=some m:=by rfl) (ht:P.underlying t=some (.slice e):=by rfl) (aw:dr P e=some s:=by rfl) (hb:jw P e=some by_:=by rfl) (aU:∃ z,gZ P e=some z/\z.length=s:=by exact⟨_,rfl,rfl⟩) (av:b1 env ops o.guard=some true:=by rfl) (hd:o.dst=some d:=by rfl) (aN:Nat.blt d af=true:=by rfl) (hn0:Nat.ble n0 next=true:=by rfl) (h:a6 P n0 ops.toArray rest ⟨(d,.ro r) :: env,(id,none) :: heap,next+1,af⟩ Q):a6 P n0 ops.toArray (o :: rest) ⟨env,heap,next,af⟩ Q:=by
 subst hr;exact kn av (qj (bM hn0) (RM (st:={ env:=env,heap:=heap,next:=next+1,af:=af }) ae hd aN U hh aj ak ht aw hb aU hm fp h63)) h
theorem aaY {m:List (List V)} {v:V} (hm:∀ i,i<m.length->(bb m i).length=s) (fp:m.length * by_<=140737488355328) (h63:m.length<=9223372036854775807) (ae:o.op = .call { callee:=.builtin .append,args:=#[x,y],argTypes:=#[t,t] }:=by rfl) (U:aJ env x=some aX:=by rfl) (aj:aJ env y=some v:=by rfl) (ak:ij heap v=some m:=by rfl) (ht:P.underlying t=some (.slice e):=by rfl) (aw:dr P e=some s:=by rfl) (hb:jw P e=some by_:=by rfl) (aU:∃ z,gZ P e=some z/\z.length=s:=by exact⟨_,rfl,rfl⟩) (ai:Nat.blt 0 s=true:=by rfl) (av:b1 env ops o.guard=some true:=by rfl) (hd:o.dst=some d:=by rfl) (aN:Nat.blt d af=true:=by rfl) (hn0:Nat.ble n0 next=true:=by rfl) (h:a6 P n0 ops.toArray rest ⟨(d,.own next) :: env,(next,some (.row e s m)) :: heap,next+1,af⟩ Q):a6 P n0 ops.toArray (o :: rest) ⟨env,heap,next,af⟩ Q:=
 kn av (qj (bM hn0) (KZ (st:={ env:=env,heap:=heap,next:=next+1,af:=af }) ae hd aN U aj ak ht aw ai hb aU hm fp h63)) h
theorem aaZ {m:List (List V)} {v:V} (hm:∀ i,i<m.length->(bb m i).length=s) (fp:m.length * by_<=140737488355328) (h63:m.length<=9223372036854775807) (ae:o.op = .call { callee:=.builtin .append,args:=#[x,y],argTypes:=#[t,t] }:=by rfl) (U:aJ env x=some aX:=by rfl) (aj:aJ env y=some v:=by rfl) (ak:ij heap v=some m:=by rfl) (ht:P.underlying t=some (.slice e):=by rfl) (aw:dr P e=some s:=by rfl) (hb:jw P e=some by_:=by rfl) (aU:∃ z,gZ P e=some z/\z.length=s:=by exact⟨_,rfl,rfl⟩) (ai:Nat.blt 0 s=true:=by rfl) (av:b1 env ops o.guard=some true:=by rfl) (hd:o.dst=some d:=by rfl) (aN:Nat.blt d af=true:=by rfl) (hn0:Nat.ble n0 next=true:=by rfl) (h:a6 P n0 ops.toArray rest ⟨(d,.ro m) :: env,heap,next+1,af⟩ Q):a6 P n0 ops.toArray (o :: rest) ⟨env,heap,next,af⟩ Q:=
 kn av (qj (bM hn0) (RN (st:={ env:=env,heap:=heap,next:=next+1,af:=af }) ae hd aN U aj ak ht aw ai hb aU hm fp h63)) h
end
section
variable {af aA k bn:Nat} {ops:List Oper} {W:Nat->Nat->Bool} {rest:List Oper} {env:List (Nat×V)} {heap:List (Nat×Option aT)} {Q:aW->Prop}
theorem Ff {E heap:List (Nat×Option aT)} (h:xL E heap) {v:V} {m:List (List V)} (ak:ij E v=some m):ij heap v=some m:=by
 cases v with
 | own id=>
  simp only[ij] at ak ⊢
  cases an:aM E id with
  | none=>rw[an] at ak;cases ak
  | some B=>rw[h id B an];rw[an] at ak;exact ak
 | lit u=>
  cases u with
  | slice A n c=>cases A <;> cases n <;> exact ak
  | _=>exact ak
 | _=>exact ak
theorem rD {Hn:List (Nat×Option aT)} {v:V} (av:b1 (bt (looks ops o) env) ops o.guard=some true) (hd:o.dst=some d) (ag:k+1=bn) (hb:Nat.ble aA k=true) (Jc:∀ id B,aM Hn id=some B->jQ ops W aA (k - aA) id=true/\aM heap id=some B) (hH:∀ id,lq H id=true->id=k\/(W (k - aA) id=true/\D8 o.op=true/\jQ ops W aA (k - aA) id=true)) (hq:∀ N fW cB,vC (bt (looks ops o) env) fW -> xL Hn cB -> kU P k o ⟨fW,cB,N,af⟩ ⟨(d,v) :: fW,H++cB,N,af⟩) (h:bf P af aA ops W bn rest ((d,v) :: env) (H++heap) Q):bf P af aA ops W k (o :: rest) env heap Q:=by
 subst ag;refine oo (s:=⟨v,H⟩) (fun N J aa=>⟨bt (looks ops o) env,Hn,fun t x h=>nI h,Jc,fun id h=>?_,?_⟩) ?_ hb
 ·rw[show aA+(k - aA)=k by omega];exact hH id h
 ·rw[show aA+(k - aA)=k by omega];refine Jb av aa (fun fW cB ax Ar=>?_);rw[hd];exact hq N fW cB ax Ar
 ·rw[hd];exact h
theorem RP (ak:jQ ops W aA i id=true) (hh:aM heap id=some B):∀ dk bd,aM [(id,some B)] dk = some bd -> jQ ops W aA i dk = true/\aM heap dk = some bd:=by
 intro dk bd c6;rw[cl] at c6;split at c6
 ·rename_i e;subst e;injection c6 with c6;subst c6;exact⟨ak,hh⟩
 ·cases c6
theorem aa0 {m:List (List V)} {v:V} (hm:∀ i,i<m.length->(bb m i).length=s) (fp:m.length * by_<=140737488355328) (h63:m.length<=9223372036854775807) (ae:o.op = .call { callee:=.builtin .append,args:=#[x,y],argTypes:=#[t,t] }:=by rfl) (U:aJ (bt (looks ops o) env) x=some aX:=by rfl) (aj:aJ (bt (looks ops o) env) y=some v:=by rfl) (ak:ij [] v=some m:=by rfl) (ht:P.underlying t=some (.slice e):=by rfl) (aw:dr P e=some s:=by rfl) (hb:jw P e=some by_:=by rfl) (aU:∃ z,gZ P e=some z/\z.length=s:=by exact⟨_,rfl,rfl⟩) (ai:Nat.blt 0 s=true:=by rfl) (av:b1 (bt (looks ops o) env) ops o.guard=some true:=by rfl) (hd:o.dst=some d:=by rfl) (aN:Nat.blt d af=true:=by rfl) (ag:k+1=bn:=by(simp only[Nat.reduceAdd];rfl)) (cG:Nat.ble aA k=true:=by rfl) (h:bf P af aA ops W bn rest ((d,.own k) :: env) ((k,some (.row e s m)) :: heap) Q):bf P af aA ops W k (o :: rest) env heap Q:=
 rD (Hn:=[]) (H:=[(k,some (.row e s m))]) av hd ag cG (fun id B h=>by cases h) (fun id h=>.inl (rz h)) (fun N fW cB ax hH=>KZ (st:=⟨fW,cB,N,af⟩) ae hd aN (kB ax U) (kB ax aj) (Ff hH ak) ht aw ai hb aU hm fp h63) h
theorem aa1 {m:List (List V)} {v:V} (hm:∀ i,i<m.length->(bb m i).length=s) (fp:m.length * by_<=140737488355328) (h63:m.length<=9223372036854775807) (ae:o.op = .call { callee:=.builtin .append,args:=#[x,y],argTypes:=#[t,t] }:=by rfl) (U:aJ (bt (looks ops o) env) x=some aX:=by rfl) (aj:aJ (bt (looks ops o) env) y=some v:=by rfl) (ak:ij [] v=some m:=by rfl) (ht:P.underlying t=some (.slice e):=by rfl) (aw:dr P e=some s:=by rfl) (hb:jw P e=some by_:=by rfl) (aU:∃ z,gZ P e=some z/\z.length=s:=by exact⟨_,rfl,rfl⟩) (ai:Nat.blt 0 s=true:=by rfl) (av:b1 (bt (looks ops o) env) ops o.guard=some true:=by rfl) (hd:o.dst=some d:=by rfl) (aN:Nat.blt d af=true:=by rfl) (ag:k+1=bn:=by(simp only[Nat.reduceAdd];rfl)) (cG:Nat.ble aA k=true:=by rfl) (h:bf P af aA ops W bn rest ((d,.ro m) :: env) heap Q):bf P af aA ops W k (o :: rest) env heap Q:=
 rD (Hn:=[]) (H:=[]) av hd ag cG (fun id B h=>by cases h) (fun id h=>(sI h).elim) (fun N fW cB ax hH=>RN (st:=⟨fW,cB,N,af⟩) ae hd aN (kB ax U) (kB ax aj) (Ff hH ak) ht aw ai hb aU hm fp h63) h
theorem zy (ae:o.op = .buildSlice t 0 #[]:=by rfl) (ht:P.underlying t=some (.slice e):=by rfl) (aw:dr P e=some s:=by rfl) (ai:Nat.blt 0 s=true:=by rfl) (av:b1 (bt (looks ops o) env) ops o.guard=some true:=by rfl) (hd:o.dst=some d:=by rfl) (aN:Nat.blt d af=true:=by rfl) (ag:k+1=bn:=by(simp only[Nat.reduceAdd];rfl)) (cG:Nat.ble aA k=true:=by rfl) (h:bf P af aA ops W bn rest ((d,.own k) :: env) ((k,some (.row e s [])) :: heap) Q):bf P af aA ops W k (o :: rest) env heap Q:=
 rD (Hn:=[]) (H:=[(k,some (.row e s []))]) av hd ag cG (fun id B h=>by cases h) (fun id h=>.inl (rz h)) (fun N fW cB ax hH=>RO (st:=⟨fW,cB,N,af⟩) ae hd aN ht aw ai) h
theorem Kg {E env:List (Nat×V)} (h:vC E env):∀ {xs:List (Nat×Operand)} {c5:List (Nat×List V)},mo E xs=some c5->mo env xs=some c5
 | [],c5,U=>U
 | (i,x) :: xs,c5,U=>by
  simp only[mo] at U ⊢;split at U
  ·rename_i v ak;rw[kB h ak];split at U
   ·rename_i cs W1 J aa;simp only[J,Kg h aa];exact U
   ·cases U
  ·cases U
theorem zx {c5:List (Nat×List V)} {l dW:List (List V)} (ae:o.op = .buildSlice t len parts:=by rfl) (ht:P.underlying t=some (.slice e):=by rfl) (ar:mo (bt (looks ops o) env) parts.toList=some c5:=by rfl) (ao:r0 P e len c5=some l:=by rfl) (hv:lc l dW:=by repeat'(first|exact lc.nil|apply lc.cons|exact Norm.nil|apply Norm.cons)) (rF:dW.all (fun cs=>cs.all hQ)=true:=by rfl) (av:b1 (bt (looks ops o) env) ops o.guard=some true:=by rfl) (hd:o.dst=some d:=by rfl) (aN:Nat.blt d af=true:=by rfl) (hlen:Nat.blt 0 len=true:=by rfl) (jO:Nat.ble (len * (dr P e).getD 0) 16777216=true:=by rfl) (ag:k+1=bn:=by(simp only[Nat.reduceAdd];rfl)) (cG:Nat.ble aA k=true:=by rfl) (h:bf P af aA ops W bn rest ((d,.ro dW) :: env) heap Q):bf P af aA ops W k (o :: rest) env heap Q:=by
 have e:=hv.eq;subst e;subst ag;refine oo (s:=⟨.ro l,[]⟩) (fun N _ _=>⟨bt (looks ops o) env,[],fun t x h=>nI h,fun id B h=>(by cases h),fun id h=>(sI h).elim,vD av (fun fW cB ax hH=>?_)⟩) ?_ cG
 ·have:=RH (P:=P) (n0:=N) (st:=⟨fW,cB,N,af⟩) ae hd aN ht (Kg ax ar) ao rF hlen jO;rw[hd];exact this
 ·rw[hd];exact h
theorem Kh (ae:o.op = .call { callee:=.builtin .append,args:=#[x,y],argTypes:=#[t,t] }):D8 o.op=true:=by rw[ae];rfl
theorem la {l m r:List (List V)} {v:V} (hr:l++m=r) (hm:∀ i,i<m.length->(bb m i).length=s) (fp:(l.length+m.length) * by_<=140737488355328) (h63:l.length+m.length<=9223372036854775807) (ae:o.op = .call { callee:=.builtin .append,args:=#[x,y],argTypes:=#[t,t] }:=by rfl) (U:aJ (bt (looks ops o) env) x=some (.own id):=by rfl) (hh:aM heap id=some (.row e s l):=by rfl) (aj:aJ (bt (looks ops o) env) y=some v:=by rfl) (ak:ij [] v=some m:=by rfl) (ht:P.underlying t=some (.slice e):=by rfl) (aw:dr P e=some s:=by rfl) (hb:jw P e=some by_:=by rfl) (aU:∃ z,gZ P e=some z/\z.length=s:=by exact⟨_,rfl,rfl⟩) (av:b1 (bt (looks ops o) env) ops o.guard=some true:=by rfl) (hd:o.dst=some d:=by rfl) (aN:Nat.blt d af=true:=by rfl) (ag:k+1=bn:=by(simp only[Nat.reduceAdd];rfl)) (cG:Nat.ble aA k=true:=by rfl) (kx:W (k - aA) id=true:=by rfl) (uc:jQ ops W aA (k - aA) id=true:=by kernel_rfl) (h:bf P af aA ops W bn rest ((d,.own k) :: env) ((k,some (.row e s r)) :: (id,none) :: heap) Q):bf P af aA ops W k (o :: rest) env heap Q:=by
 subst hr;refine rD (Hn:=[(id,some (.row e s l))]) (H:=[(k,some (.row e s (l++m))),(id,none)]) av hd ag cG (RP uc hh) (fun dk h=>?_) (fun N fW cB ax hH=>IZ (st:=⟨fW,cB,N,af⟩) ae hd aN (kB ax U) (hH id (.row e s l) (by simp[aM])) (kB ax aj) (Ff (E:=[]) (fun t x h=>by cases h) ak) ht aw hb aU hm fp h63) h;simp only[lq,Bool.or_false,Bool.or_eq_true] at h;rcases h with h|h
 ·exact .inl (iF h).symm
 ·rw[<- iF h];exact .inr ⟨kx,Kh ae,uc⟩
theorem NY {l m r:List (List V)} {v:V} (hr:l++m=r) (hm:∀ i,i<m.length->(bb m i).length=s) (fp:(l.length+m.length) * by_<=140737488355328) (h63:l.length+m.length<=9223372036854775807) (ae:o.op = .call { callee:=.builtin .append,args:=#[x,y],argTypes:=#[t,t] }:=by rfl) (U:aJ (bt (looks ops o) env) x=some (.own id):=by rfl) (hh:aM heap id=some (.row e s l):=by rfl) (aj:aJ (bt (looks ops o) env) y=some v:=by rfl) (ak:ij [] v=some m:=by rfl) (ht:P.underlying t=some (.slice e):=by rfl) (aw:dr P e=some s:=by rfl) (hb:jw P e=some by_:=by rfl) (aU:∃ z,gZ P e=some z/\z.length=s:=by exact⟨_,rfl,rfl⟩) (av:b1 (bt (looks ops o) env) ops o.guard=some true:=by rfl) (hd:o.dst=some d:=by rfl) (aN:Nat.blt d af=true:=by rfl) (ag:k+1=bn:=by(simp only[Nat.reduceAdd];rfl)) (cG:Nat.ble aA k=true:=by rfl) (kx:W (k - aA) id=true:=by rfl) (uc:jQ ops W aA (k - aA) id=true:=by kernel_rfl) (h:bf P af aA ops W bn rest ((d,.ro r) :: env) ((id,none) :: heap) Q):bf P af aA ops W k (o :: rest) env heap Q:=by
 subst hr;refine rD (Hn:=[(id,some (.row e s l))]) (H:=[(id,none)]) av hd ag cG (RP uc hh) (fun dk h=>?_) (fun N fW cB ax hH=>RM (st:=⟨fW,cB,N,af⟩) ae hd aN (kB ax U) (hH id (.row e s l) (by simp[aM])) (kB ax aj) (Ff (E:=[]) (fun t x h=>by cases h) ak) ht aw hb aU hm fp h63) h;rw[rz h];exact .inr ⟨kx,Kh ae,uc⟩
end
end
section
variable {P:Program} {o:Oper} {n0:Nat}
def nM (P:Program) (heap:List (Nat×Option aT)):List Oper->List (Nat×V)->List (Nat×V)
 | [],env=>env
 | o :: os,env=>match o.dst with
  | none=>nM P heap os env
  | some d=>match o.op with
   | .indexAddr _ (.tmp t) _=>match cW env t with
    | some (.own id)=>nM P heap os ((d,.ptr id 0 0 0) :: env)
    | _=>nM P heap os env
   | .move (.tmp t)=>match cW env t with
    | some v=>nM P heap os ((d,v) :: env)
    | none=>nM P heap os env
   | .assign (.tmp t)=>match cW env t with
    | some v=>nM P heap os ((d,v) :: env)
    | none=>nM P heap os env
   | .fieldAddr T x f=>match vz P [] ⟨env,heap,0,0⟩ (.fieldAddr T x f) with
    | some v=>nM P heap os ((d,v) :: env)
    | none=>nM P heap os env
   | .nilCheck (.tmp t)=>match cW env t with
    | some v=>nM P heap os ((d,v) :: env)
    | none=>nM P heap os env
   | .load T x=>match vz P [] ⟨env,heap,0,0⟩ (.load T x) with
    | some v=>nM P heap os ((d,v) :: env)
    | none=>nM P heap os env
   | _=>nM P heap os env
def aa2 (heap:List (Nat×Option aT)) (id:Nat):List Nat:=match aM heap id with
 | some (.box _ cs)=>cs.filterMap (fun c=>match c with
  | .own i=>some i
  | .ptr i _ _ _=>some i
  | _=>none)
 | _=>[]
def K0 (env:List (Nat×V)) (heap:List (Nat×Option aT)):List Operand->List Nat
 | []=>[]
 | .tmp t :: xs=>(match cW env t with
  | some (.ptr id _ _ _)=>id :: aa2 heap id
  | _=>[])++K0 env heap xs
 | _ :: xs=>K0 env heap xs
def v8 (env:List (Nat×V)) (heap:List (Nat×Option aT)):Nat->List Oper->List (Nat×Nat)
 | _,[]=>[]
 | j,o :: os=>match o.op with
  | .store _ (.tmp t) _=>match cW env t with
   | some (.ptr id _ _ _)=>(j,id) :: v8 env heap (j+1) os
   | _=>v8 env heap (j+1) os
  | .call { callee:=.builtin .append,args:=⟨.tmp t :: _⟩,argTypes:=_ }=>match cW env t with
   | some (.own id)=>(j,id) :: v8 env heap (j+1) os
   | _=>v8 env heap (j+1) os
  | .call { callee:=.value (.func _),args:=xs,argTypes:=_ }=>(K0 env heap xs.toList).map (fun i=>(j,i))++v8 env heap (j+1) os
  | _=>v8 env heap (j+1) os
inductive x1:List (Nat×Nat)->List (Nat×Nat)->Prop
 | nil:x1 [] []
 | cons {a b:Nat} {l m:List (Nat×Nat)} (h:x1 l m):x1 ((a,b) :: l) ((a,b) :: m)
def J7:List (Nat×Nat)->Nat->Nat->Bool
 | [],_,_=>false
 | (a,b) :: l,j,x=>(Nat.beq a j && Nat.beq b x) || J7 l j x
def ow:List Nat->Nat->Bool
 | [],_=>false
 | a :: l,x=>Nat.beq a x || ow l x
def Qn (l:List Oper) (j:Nat):Bool:=match l[j]? with
 | some o=>Xc o.op
 | none=>false
theorem Eg {st:aW} {Q:Exit->aW->Prop} {l:List Oper} {ws:List (Nat×Nat)} (h:bf P st.af st.next l (fun j id=>(Nat.ble st.next id && Qn l j) || J7 ws j id) st.next l st.env st.heap (Q .normal)) (hw:x1 (v8 (nM P st.heap l st.env) st.heap 0 l) ws:=by repeat'(first|exact x1.nil|apply x1.cons)) (hm:P.follows .mixedOrders=true:=by kernel_rfl) (bP:ms l=true:=by kernel_rfl) (hn0:Nat.ble n0 st.next=true:=by kernel_rfl) :
  cE P n0 (.region id l.toArray true) st Q:=PB _ h hm bP hn0
end
theorem Rv {enc:α->List V} {l:List α} (h:∀ x,(enc x).length=s):∀ i,i<(l.map enc).length->(bb (l.map enc) i).length=s:=fun i hi=>by
 rw[bY] at hi;unfold bb;rw[bZ,qn,eB hi];exact h _
theorem y0 {c:List V} (h:c.length=s):∀ i,i<[c].length->(bb [c] i).length=s:=fun i hi=>by
 have:i=0:=by simpa using hi
 subst this;exact h
theorem Ru {c d:List V} (h:c.length=s) (aa:d.length=s):∀ i,i<[c,d].length->(bb [c,d] i).length=s:=fun i hi=>by
 rcases i with _|_|i
 ·exact h
 ·exact aa
 ·simp at hi;omega
theorem Rt :∀ i,i<([]:List (List V)).length->(bb [] i).length=s:=fun i hi=>by simp at hi
section
variable {P:Program} {o:Oper} {n0:Nat} {ops:List Oper} {rest:List Oper} {env:List (Nat×V)} {heap:List (Nat×Option aT)} {next af:Nat} {Q:aW->Prop}
theorem k9 {m r:List (List V)} {v:V} (hr:m=r) (hm:∀ i,i<m.length->(bb m i).length=s) (fp:m.length * by_<=140737488355328) (h63:m.length<=9223372036854775807) (ae:o.op = .call { callee:=.builtin .append,args:=#[x,y],argTypes:=#[t,t] }:=by rfl) (U:aJ env x=some aX:=by rfl) (aj:aJ env y=some v:=by rfl) (ak:ij heap v=some m:=by rfl) (ht:P.underlying t=some (.slice e):=by rfl) (aw:dr P e=some s:=by rfl) (hb:jw P e=some by_:=by rfl) (aU:∃ z,gZ P e=some z/\z.length=s:=by exact⟨_,rfl,rfl⟩) (ai:Nat.blt 0 s=true:=by rfl) (av:b1 env ops o.guard=some true:=by rfl) (hd:o.dst=some d:=by rfl) (aN:Nat.blt d af=true:=by rfl) (hn0:Nat.ble n0 next=true:=by rfl) (h:a6 P n0 ops.toArray rest ⟨(d,.own next) :: env,(next,some (.row e s r)) :: heap,next+1,af⟩ Q):a6 P n0 ops.toArray (o :: rest) ⟨env,heap,next,af⟩ Q:=by
 subst hr;exact aaY hm fp h63 ae U aj ak ht aw hb aU ai av hd aN hn0 h
theorem NX {m r:List (List V)} {v:V} (hr:m=r) (hm:∀ i,i<m.length->(bb m i).length=s) (fp:m.length * by_<=140737488355328) (h63:m.length<=9223372036854775807) (ae:o.op = .call { callee:=.builtin .append,args:=#[x,y],argTypes:=#[t,t] }:=by rfl) (U:aJ env x=some aX:=by rfl) (aj:aJ env y=some v:=by rfl) (ak:ij heap v=some m:=by rfl) (ht:P.underlying t=some (.slice e):=by rfl) (aw:dr P e=some s:=by rfl) (hb:jw P e=some by_:=by rfl) (aU:∃ z,gZ P e=some z/\z.length=s:=by exact⟨_,rfl,rfl⟩) (ai:Nat.blt 0 s=true:=by rfl) (av:b1 env ops o.guard=some true:=by rfl) (hd:o.dst=some d:=by rfl) (aN:Nat.blt d af=true:=by rfl) (hn0:Nat.ble n0 next=true:=by rfl) (h:a6 P n0 ops.toArray rest ⟨(d,.ro r) :: env,heap,next+1,af⟩ Q):a6 P n0 ops.toArray (o :: rest) ⟨env,heap,next,af⟩ Q:=by
 subst hr;exact aaZ hm fp h63 ae U aj ak ht aw hb aU ai av hd aN hn0 h
theorem zz (ae:o.op = .buildSlice t 0 #[]:=by rfl) (ht:P.underlying t=some (.slice e):=by rfl) (aw:dr P e=some s:=by rfl) (ai:Nat.blt 0 s=true:=by rfl) (av:b1 env ops o.guard=some true:=by rfl) (hd:o.dst=some d:=by rfl) (aN:Nat.blt d af=true:=by rfl) (hn0:Nat.ble n0 next=true:=by rfl) (h:a6 P n0 ops.toArray rest ⟨(d,.own next) :: env,(next,some (.row e s [])) :: heap,next+1,af⟩ Q):a6 P n0 ops.toArray (o :: rest) ⟨env,heap,next,af⟩ Q:=
 kn av (qj (bM hn0) (RO (st:={ env:=env,heap:=heap,next:=next+1,af:=af }) ae hd aN ht aw ai)) h
end
section
variable {P:Program} {o:Oper} {af aA k bn:Nat} {ops:List Oper} {W:Nat->Nat->Bool} {rest:List Oper} {env:List (Nat×V)} {heap:List (Nat×Option aT)} {Q:aW->Prop}
theorem kl {m r:List (List V)} {v:V} (hr:m=r) (hm:∀ i,i<m.length->(bb m i).length=s) (fp:m.length * by_<=140737488355328) (h63:m.length<=9223372036854775807) (ae:o.op = .call { callee:=.builtin .append,args:=#[x,y],argTypes:=#[t,t] }:=by rfl) (U:aJ (bt (looks ops o) env) x=some aX:=by rfl) (aj:aJ (bt (looks ops o) env) y=some v:=by rfl) (ak:ij [] v=some m:=by rfl) (ht:P.underlying t=some (.slice e):=by rfl) (aw:dr P e=some s:=by rfl) (hb:jw P e=some by_:=by rfl) (aU:∃ z,gZ P e=some z/\z.length=s:=by exact⟨_,rfl,rfl⟩) (ai:Nat.blt 0 s=true:=by rfl) (av:b1 (bt (looks ops o) env) ops o.guard=some true:=by rfl) (hd:o.dst=some d:=by rfl) (aN:Nat.blt d af=true:=by rfl) (ag:k+1=bn:=by(simp only[Nat.reduceAdd];rfl)) (cG:Nat.ble aA k=true:=by rfl) (h:bf P af aA ops W bn rest ((d,.own k) :: env) ((k,some (.row e s r)) :: heap) Q):bf P af aA ops W k (o :: rest) env heap Q:=by
 subst hr;exact aa0 hm fp h63 ae U aj ak ht aw hb aU ai av hd aN ag cG h
theorem NZ {m r:List (List V)} {v:V} (hr:m=r) (hm:∀ i,i<m.length->(bb m i).length=s) (fp:m.length * by_<=140737488355328) (h63:m.length<=9223372036854775807) (ae:o.op = .call { callee:=.builtin .append,args:=#[x,y],argTypes:=#[t,t] }:=by rfl) (U:aJ (bt (looks ops o) env) x=some aX:=by rfl) (aj:aJ (bt (looks ops o) env) y=some v:=by rfl) (ak:ij [] v=some m:=by rfl) (ht:P.underlying t=some (.slice e):=by rfl) (aw:dr P e=some s:=by rfl) (hb:jw P e=some by_:=by rfl) (aU:∃ z,gZ P e=some z/\z.length=s:=by exact⟨_,rfl,rfl⟩) (ai:Nat.blt 0 s=true:=by rfl) (av:b1 (bt (looks ops o) env) ops o.guard=some true:=by rfl) (hd:o.dst=some d:=by rfl) (aN:Nat.blt d af=true:=by rfl) (ag:k+1=bn:=by(simp only[Nat.reduceAdd];rfl)) (cG:Nat.ble aA k=true:=by rfl) (h:bf P af aA ops W bn rest ((d,.ro r) :: env) heap Q):bf P af aA ops W k (o :: rest) env heap Q:=by
 subst hr;exact aa1 hm fp h63 ae U aj ak ht aw hb aU ai av hd aN ag cG h
end
def e6 (inv:Nat->Option Nat) (heap:List (Nat×Option aT)):V->Option V
 | .lit u=>some (.lit u)
 | .ro l=>some (.ro l)
 | .fk cs=>some (.fk cs)
 | .own id=>match inv id with
  | some dk=>some (.own dk)
  | none=>match aM heap id with
   | some (.row _ _ l)=>some (.ro l)
   | some (.dY l)=>some (.ro l)
   | _=>none
 | .ptr id i s j=>match inv id with
  | some dk=>some (.ptr dk i s j)
  | none=>none
 | .agg cs=>match me cs with
  | some eU=>some (.agg eU)
  | none=>none
 | .bN cs=>match me cs with
  | some eU=>some (.bN eU)
  | none=>none
 | .fs f cs=>match me cs with
  | some eU=>some (.fs f eU)
  | none=>none
 | .any=>some .any
 | .gN=>some .gN
where me:List V->Option (List V)
 | []=>some []
 | c :: cs=>match e6 inv heap c,me cs with
  | some hM,some eU=>some (hM :: eU)
  | _,_=>none
theorem qW {inv:Nat->Option Nat} {heap:List (Nat×Option aT)}:∀ {cs eU:List V},e6.me inv heap cs=some eU -> eU.length=cs.length /\ ∀ j,j<cs.length->e6 inv heap (bw cs j)=some (bw eU j)
 | [],eU,h=>by
  simp only[e6.me,ck] at h;subst h;exact⟨rfl,fun j ad=>by simp at ad⟩
 | c :: cs,eU,h=>by
  simp only[e6.me] at h;split at h
  ·rename_i hM O8 J aa;injection h with h;subst h;obtain ⟨aI,a7⟩:=qW aa;refine ⟨by simp[aI],fun j ad=>?_⟩
   cases j with
   | zero=>simpa[bw] using J
   | succ j=>
    have:=a7 j kY;simpa[bw] using this
  ·cases h
def gE (inv:Nat->Option Nat) (heap:List (Nat×Option aT)):aT->Option aT
 | .box t cs=>match e6.me inv heap cs with
  | some eU=>some (.box t eU)
  | none=>none
 | .ch _ _ _=>none
 | B=>some B
structure Ren (n0 bB:Nat) (inv:Nat->Option Nat) (mp:Nat->Nat):Prop where
 le:n0<=bB
 back:∀ {o n},inv o=some n->mp n=o/\n<bB
 low:∀ {i},i<n0->inv i=some i
def kf (ρ:Nat->Option Value) (inv:Nat->Option Nat) (mp:Nat->Nat):Nat->Option Value:=fun id=>if inv (mp id)=some id then ρ (mp id) else none
theorem pY {ρ:Nat->Option Value} (h:kf ρ inv mp id=some u):inv (mp id)=some id/\ρ (mp id)=some u:=by
 unfold kf at h;split at h
 ·exact⟨by assumption,h⟩
 ·cases h
theorem qk {n0:Nat} {ρ:Nat->Option Value} (hr:Ren n0 bB inv mp) {o:Nat} (h:inv o=some n):kf ρ inv mp n=ρ o:=by
 have e:=(hr.back h).1;unfold kf;rw[e,al h]
section
variable {P:Program} {n0:Nat}
theorem RQ {F:Nat->Prop} {ρ:Nat->Option Value} {heap:List (Nat×Option aT)} (hh:∀ id bd,aM cB id=some bd -> inv (mp id)=some id /\ ∃ B,aM heap (mp id)=some B/\gE inv heap B=some bd) {b:Nat} (h:bs F ρ heap b):bs F (kf ρ inv mp) cB b:=by
 refine ⟨h.1,fun id bd u an ae hu=>?_⟩;obtain ⟨_,B,aa,az⟩:=hh id bd an;refine h.2 (mp id) B u aa ?_ (pY hu).2
 cases B with
 | box t cs=>rfl
 | row=>rfl
 | dY l=>simp only[gE,ck] at az;subst az;cases ae
 | map q es=>rfl
 | obj o=>rfl
 | mV be lL=>rfl
 | ch e s l=>simp only[gE] at az;cases az
 | gF q es=>simp only[gE,ck] at az;subst az;cases ae
 | iter left cQ=>rfl
theorem K1 {F base:Nat->Prop} {ρ:Nat->Option Value} {heap:List (Nat×Option aT)} {next:Nat} {w0 w:World} (hr:Ren n0 bB inv mp) (hH:eA F base ρ heap next w0 w) (hh:∀ id bd,aM cB id=some bd -> inv (mp id)=some id /\ ∃ B,aM heap (mp id)=some B/\gE inv heap B=some bd) {v:V} (h:cT ρ (bs F ρ heap) w v u):∀ {cH},e6 inv heap v=some cH -> cT (kf ρ inv mp) (bs F (kf ρ inv mp) cB) w cH u:=by
 have hS:∀ b,bs F ρ heap b->b<w.heap.size->bs F (kf ρ inv mp) cB b:=fun b h _=>RQ hh h
 induction h with
 | @pure v u h=>
  intro cH ak;have ar:=h.mono (dl.refl _ _) hS
  cases h with
  | lit=>simp only[e6,ck] at ak;subst ak;exact .pure ar
  | ro=>simp only[e6,ck] at ak;subst ak;exact .pure ar
 | @own id u h=>
  intro cH ak;simp only[e6] at ak;split at ak
  ·rename_i dk hi;injection ak with ak;subst ak;exact .own (by rw[qk hr hi];exact h)
  ·rename_i hi;split at ak
   ·rename_i e s l qV;injection ak with ak;subst ak;obtain ⟨ai,v,xs,J,⟨aa,_⟩,az,bk⟩:=hH.cJ _ _ qV;rw[h] at J;injection J with J;subst J;refine .pure (DV ai aa az bk hS (fun b hb=>⟨hH.dX b (hH.owned qV rfl h hb).1,fun dk bd dD b0 dK c2 hl=>?_⟩));obtain ⟨g1,B,g2,g3⟩:=hh dk bd b0;obtain ⟨g4,g5⟩:=pY c2;have ur:B.owns=true:=by
     cases B with
     | box t cs=>rfl
     | row=>rfl
     | dY l=>simp only[gE,ck] at g3;subst g3;cases dK
     | map q es=>rfl
     | obj o=>rfl
     | mV be lL=>rfl
     | ch e s l=>simp only[gE] at g3;cases g3
     | gF q es=>simp only[gE,ck] at g3;subst g3;cases dK
     | iter left cQ=>rfl
    have:=hH.inj _ _ _ _ _ _ b g2 qV ur rfl g5 h hl hb;rw[this,hi] at g1;cases g1
   ·rename_i l qV;injection ak with ak;subst ak;obtain ⟨v,J,aa,_⟩:=hH.cJ _ _ qV;rw[h] at J;injection J with J;subst J;exact .pure (aa.mono (dl.refl _ _) hS)
   ·cases ak
 | @ptr id i s j b u h hb=>
  intro cH ak;simp only[e6] at ak;split at ak
  ·rename_i dk hi;injection ak with ak;subst ak;exact .ptr (by rw[qk hr hi];exact h) hb
  ·cases ak
 | fk us pP hc wD=>
  intro cH ak;simp only[e6,ck] at ak;subst ak;exact .fk us (fun h=>hS _ (pP h) (qK (hc 0 h))) hc (fun j ad=>(wD j ad).mono (dl.refl _ _) hS)
 | agg hn h bU=>
  intro cH ak;simp only[e6] at ak;split at ak
  ·rename_i eU hN;injection ak with ak;subst ak;obtain ⟨aI,a7⟩:=qW hN;exact .agg (by rw[aI];exact hn) (fun j ad=>bU j (by omega) (a7 j (by omega)))
  ·cases ak
 | bN hn h bU=>
  intro cH ak;simp only[e6] at ak;split at ak
  ·rename_i eU hN;injection ak with ak;subst ak;obtain ⟨aI,a7⟩:=qW hN;exact .bN (by rw[aI];exact hn) (fun j ad=>bU j (by omega) (a7 j (by omega)))
  ·cases ak
 | fs hn h bU=>
  intro cH ak;simp only[e6] at ak;split at ak
  ·rename_i eU hN;injection ak with ak;subst ak;obtain ⟨aI,a7⟩:=qW hN;exact .fs (by rw[aI];exact hn) (fun j ad=>bU j (by omega) (a7 j (by omega)))
  ·cases ak
 | any u=>intro cH ak;simp only[e6,ck] at ak;subst ak;exact .any u
 | gN=>intro cH ak;simp only[e6,ck] at ak;subst ak;exact .gN
theorem Fg {F base:Nat->Prop} {ρ:Nat->Option Value} {heap:List (Nat×Option aT)} {next:Nat} {w0 w:World} (hr:Ren n0 bB inv mp) (hH:eA F base ρ heap next w0 w) (hh:∀ id bd,aM cB id=some bd -> inv (mp id)=some id /\ ∃ B,aM heap (mp id)=some B/\gE inv heap B=some bd):eA F base (kf ρ inv mp) cB bB w0 w:=by
 have hS:∀ b,bs F ρ heap b->b<w.heap.size->bs F (kf ρ inv mp) cB b:=fun b h _=>RQ hh h
 have kr:∀ {B bd:aT},gE inv heap B=some bd -> bd.owns=true->B.owns=true:=fun {B bd} h ae=>by
  cases B with
  | box t cs=>rfl
  | row=>rfl
  | dY l=>simp only[gE,ck] at h;subst h;cases ae
  | map q es=>rfl
  | obj o=>rfl
  | mV be lL=>rfl
  | ch e s l=>simp only[gE] at h;cases h
  | gF q es=>simp only[gE,ck] at h;subst h;cases ae
  | iter left cQ=>rfl
 refine ⟨⟨hH.below,hH.fl,fun id u hu=>⟨(hr.back (pY hu).1).2,(hH.sup _ u (pY hu).2).2⟩,fun id dk B bd u dD b an b0 ae dK hu c2 hb cG=>?_,fun id bd b0=>?_⟩,hH.dX⟩
 ·obtain ⟨g1,C,g2,g3⟩:=hh id B an;obtain ⟨bB,rB,de,fJ⟩:=hh dk bd b0;have:=hH.inj _ _ _ _ _ _ b g2 de (kr g3 ae) (kr fJ dK) (pY hu).2 (pY c2).2 hb cG;rw[this,bB] at g1;injection g1 with g1;exact g1.symm
 ·obtain ⟨g1,B,g2,g3⟩:=hh id bd b0;have eS:=hH.cJ _ _ g2;have e:kf ρ inv mp id=ρ (mp id):=by unfold kf;rw[al g1]
  cases B with
  | box t cs=>
   obtain ⟨b,us,aL,aS,bi,cq,e3⟩:=eS;simp only[gE] at g3;split at g3
   ·rename_i eU hN;injection g3 with g3;subst g3;obtain ⟨aI,a7⟩:=qW hN;exact⟨b,us,by rw[e];exact aL,aS,bi,by omega,fun j ad=>⟨K1 hr hH hh (e3 j (by omega)).1 (a7 j (by omega)),(e3 j (by omega)).2⟩⟩
   ·cases g3
  | row ty s l=>
   simp only[gE,ck] at g3;subst g3;obtain ⟨ai,v,xs,aL,aS,bi,cq⟩:=eS
   exact⟨ai,v,xs,by rw[e];exact aL,aS,bi,fun i j hi ad=>by
    obtain ⟨u,hu,ar,ae⟩:=cq i j hi ad
    exact⟨u,hu,ar.mono (dl.refl _ _) hS,ae⟩⟩
  | dY l=>
   simp only[gE,ck] at g3;subst g3;obtain ⟨v,aL,aS,bi⟩:=eS;exact⟨v,by rw[e];exact aL,aS.mono (dl.refl _ _) hS,bi⟩
  | map q es=>
   simp only[gE,ck] at g3;subst g3;obtain ⟨b,b3,clock,aL,aS⟩:=eS;exact⟨b,b3,clock,by rw[e];exact aL,aS⟩
  | obj o=>
   simp only[gE,ck] at g3;subst g3;obtain ⟨b,aL,aS⟩:=eS;exact⟨b,by rw[e];exact aL,aS⟩
  | mV be lL=>
   simp only[gE,ck] at g3;subst g3;obtain ⟨b,cap,cQ,jq,aL,aS⟩:=eS;exact⟨b,cap,cQ,jq,by rw[e];exact aL,aS⟩
  | ch ty s l=>simp only[gE] at g3;cases g3
  | gF q es=>
   simp only[gE,ck] at g3;subst g3;obtain ⟨b,b3,clock,aL,aS,bi⟩:=eS;exact⟨b,b3,clock,by rw[e];exact aL,hS b aS (gB.1 bi.1).1,bi⟩
  | iter left cQ=>
   simp only[gE,ck] at g3;subst g3;obtain ⟨r,b,b3,clock,since,seen,dz,aL,aS,bi,cq,e3⟩:=eS;exact⟨r,b,b3,clock,since,seen,dz,by rw[e];exact aL,aS,bi,hS b cq (gB.1 e3.1).1,e3⟩
def gf:List (Nat×Nat)->Nat->Option Nat
 | [],_=>none
 | (o,n) :: r,x=>bif Nat.beq o x then some n else gf r x
def ic:List (Nat×Nat)->Nat->Nat
 | [],x=>x
 | (o,n) :: r,x=>bif Nat.beq n x then o else ic r x
def r2 (n0 bB:Nat) (L:List (Nat×Nat)):Bool:=Nat.ble n0 bB && ((L.all fun p=>Nat.beq (ic L p.2) p.1 && Nat.blt p.2 bB) && (List.range n0).all fun i=>match gf L i with|some j=>Nat.beq j i|none=>false)
theorem RR:∀ {L:List (Nat×Nat)} {o n:Nat},gf L o=some n->(o,n) ∈ L
 | [],o,n,h=>by cases h
 | (a,b) :: r,o,n,h=>by
  simp only[gf] at h
  cases hb:Nat.beq a o with
  | true=>
   rw[hb] at h;simp only[cond_true,ck] at h;rw[<- h,<- iF hb];exact fV ..
  | false=>rw[hb] at h;exact ha _ (RR h)
theorem Co {n0:Nat} (h:r2 n0 bB L=true):Ren n0 bB (gf L) (ic L):=by
 unfold r2 at h;simp only[fM,lG] at h;obtain ⟨J,aa,az⟩:=h;refine ⟨bM J,fun {o n} hi=>?_,fun {i} hi=>?_⟩
 ·have:=aa _ (RR hi);exact⟨iF this.1,bM this.2⟩
 ·have:=az i (List.mem_range.2 hi);split at this
  ·rename_i j ad;rw[ad,iF this]
  ·cases this
def Bm (L:List (Nat×Nat)) (heap:List (Nat×Option aT)) (env:List (Nat×V)):List (Nat×V)->Prop
 | []=>True
 | (t,v) :: r=>(∃ u,cW env t=some u/\e6 (gf L) heap u=some v)/\Bm L heap env r
theorem Kf {L:List (Nat×Nat)} {heap:List (Nat×Option aT)} {env:List (Nat×V)}:∀ {e:List (Nat×V)},Bm L heap env e -> ∀ t v,cW e t=some v -> ∃ u,cW env t=some u/\e6 (gf L) heap u=some v
 | [],_,t,v,h=>by simp[cW] at h
 | (s,x) :: r,hc,t,v,h=>by
  simp only[cW] at h
  cases hb:Nat.beq s t with
  | true=>rw[hb] at h;simp only[cond_true,ck] at h;rw[<- h,<- iF hb];exact hc.1
  | false=>rw[hb] at h;exact Kf hc.2 t v h
def wa (L:List (Nat×Nat)) (heap:List (Nat×Option aT)):List (Nat×Option aT)->Prop
 | []=>True
 | (id,none) :: r=>wa L heap r
 | (id,some bd) :: r=>(gf L (ic L id)=some id /\ ∃ B,aM heap (ic L id)=some B/\gE (gf L) heap B=some bd)/\wa L heap r
theorem Fh {L:List (Nat×Nat)} {heap:List (Nat×Option aT)}:∀ {e:List (Nat×Option aT)},wa L heap e -> ∀ id bd,aM e id=some bd -> gf L (ic L id)=some id /\ ∃ B,aM heap (ic L id)=some B/\gE (gf L) heap B=some bd
 | [],_,t,v,h=>by simp[aM] at h
 | (s,none) :: r,hc,t,v,h=>by
  rw[cl] at h;split at h
  ·cases h
  ·exact Fh (e:=r) hc t v h
 | (s,some u) :: r,hc,t,v,h=>by
  rw[cl] at h;split at h
  ·rename_i e;subst e;injection h with h;subst h;exact hc.1
  ·exact Fh (e:=r) hc.2 t v h
theorem aa3 {st:aW} (L:List (Nat×Nat)) (cw:r2 n0 bq.next L=true) (hc:Bm L st.heap st.env bq.env) (hh:wa L st.heap bq.heap) (hnt:bq.af=st.af):cg P n0 st bq:=
 fun F base w0 ρ a w hH ax=>by
  have hr:=Co cw;have hh:=Fh hh;refine ⟨kf ρ (gf L) (ic L),Fg hr hH hh,⟨by rw[hnt];exact ax.size,ax.defers,fun t v ak=>?_⟩,fun id hid=>qk hr (hr.low hid)⟩;obtain ⟨u,J,aa⟩:=Kf hc t v ak;exact K1 hr hH hh (ax.slot t u J) aa
def K2:V->V->List (Nat×Nat)
 | .own a,.own b=>[(a,b)]
 | .ptr a _ _ _,.ptr b _ _ _=>[(a,b)]
 | .agg cs,.agg ds=>By cs ds
 | .bN cs,.bN ds=>By cs ds
 | .fs _ cs,.fs _ ds=>By cs ds
 | _,_=>[]
where By:List V->List V->List (Nat×Nat)
 | c :: cs,d :: ds=>K2 c d++By cs ds
 | _,_=>[]
def Fi (env:List (Nat×V)):List (Nat×V)->List (Nat×Nat)
 | []=>[]
 | (t,v) :: r=>match cW env t with
  | some u=>K2 u v++Fi env r
  | none=>Fi env r
def Fj (L:List (Nat×Nat)) (heap:List (Nat×Option aT)):List (Nat×Option aT)->List (Nat×Nat)
 | []=>[]
 | (id,some (.box _ ds)) :: r=>match aM heap (ic L id) with
  | some (.box _ cs)=>K2.By cs ds++Fj L heap r
  | _=>Fj L heap r
 | _ :: r=>Fj L heap r
def K3:Nat->List (Nat×Nat)
 | 0=>[]
 | n+1=>(n,n) :: K3 n
def RS (n0:Nat) (st bq:aW):List (Nat×Nat):=(K3 n0++Fi st.env bq.env)++Fj (K3 n0++Fi st.env bq.env) st.heap bq.heap
inductive sL:List (Nat×Nat)->List (Nat×Nat)->Prop
 | nil:sL [] []
 | cons {a b:Nat} {l m:List (Nat×Nat)} (h:sL l m):sL ((a,b) :: l) ((a,b) :: m)
theorem PG {heap:List (Nat×Option aT)} {env:List (Nat×V)} {u v:V} (h:cW env t=some u) (aa:e6 (gf L) heap u=some v):∃ u,cW env t=some u/\e6 (gf L) heap u=some v:=⟨u,h,aa⟩
theorem PH {heap:List (Nat×Option aT)} {env:List (Nat×V)} {k:IntKind} {n:Int} (h:cW env t=some (.lit (.int k m))) (aa:m=n):∃ u,cW env t=some u/\e6 (gf L) heap u=some (.lit (.int k n)):=⟨_,h,by rw[aa];rfl⟩
theorem Xw {heap:List (Nat×Option aT)} {env:List (Nat×V)} {l m:List (List V)} (h:cW env t=some (.ro l)) (aa:l=m):∃ u,cW env t=some u/\e6 (gf L) heap u=some (.ro m):=⟨_,h,by rw[aa];rfl⟩
theorem PI {heap:List (Nat×Option aT)} {bd:aT} (h:aM heap (ic L id)=some B) (aa:gE (gf L) heap B=some bd) (az:gf L (ic L id)=some id):gf L (ic L id)=some id /\ ∃ B,aM heap (ic L id)=some B/\gE (gf L) heap B=some bd:=⟨az,B,h,aa⟩
theorem PJ {heap:List (Nat×Option aT)} {l m:List (List V)} (h:aM heap (ic L id)=some (.row e s l)) (aa:l=m) (az:gf L (ic L id)=some id):gf L (ic L id)=some id /\ ∃ B,aM heap (ic L id)=some B/\gE (gf L) heap B=some (.row e s m):=⟨az,_,h,by rw[aa];rfl⟩
theorem Xv {st:aW} (hv:sL (RS n0 st bq) L) (cw:r2 n0 bq.next L=true) (hc:Bm L st.heap st.env bq.env) (hh:wa L st.heap bq.heap) (hnt:bq.af=st.af):cg P n0 st bq:=aa3 L cw hc hh hnt
theorem PK [Decidable p] (h:p):dt (ab true) (ab (decide p)):=by rw[decide_eq_true h];exact .refl _
theorem PL [Decidable p] (h:¬ p):dt (ab false) (ab (decide p)):=by rw[decide_eq_false h];exact .refl _
theorem PM {k:IntKind} {n:Int} (h:m=n):dt (.lit (.int k m)) (.lit (.int k n)):=by rw[h];exact .refl _
end
section
variable {P:Program} {o:Oper} {af aA k bn:Nat} {ops:List Oper} {W:Nat->Nat->Bool} {rest:List Oper} {env:List (Nat×V)} {heap:List (Nat×Option aT)} {Q:aW->Prop}
theorem AY {cX:TypeId} {xs nc:List V} (ae:o.op = .binOp .eql T x y cX:=by rfl) (U:aJ (bt (looks ops o) env) x=some (.agg xs):=by rfl) (aj:aJ (bt (looks ops o) env) y=some (.agg nc):=by rfl) (aY:P.underlying T=some (.struct cY):=by rfl) (ar:v7 P xs nc cY.toList=some p:=by rfl) (av:b1 (bt (looks ops o) env) ops o.guard=some true:=by rfl) (hd:o.dst=some d:=by rfl) (aN:Nat.blt d af=true:=by rfl) (hn : cY.toList.all (fun f => !(f.name == "_")) = true := by kernel_rfl) (aw : P.stoodInHeld T = false := by kernel_rfl) (hm : P.eqGuardType P.depth T = false := by kernel_rfl) (ag : k + 1 = bn := by (simp only [Nat.reduceAdd]; rfl)) (hb : Nat.ble aA k = true := by rfl) (ht:p->bf P af aA ops W bn rest ((d,ab true) :: env) heap Q) (hf:¬ p->bf P af aA ops W bn rest ((d,ab false) :: env) heap Q):bf P af aA ops W k (o :: rest) env heap Q:=by
 have h:=fun N=>RI (P:=P) (G:=[]) (st:=⟨bt (looks ops o) env,[],N,af⟩) ae U aj aY ar hn aw hm
 by_cases ar:p
 ·exact jc av hd aN hb ag (fun N=>(h N).1 ar) (ht ar)
 ·exact jc av hd aN hb ag (fun N=>(h N).2 ar) (hf ar)
end
section
variable {P:Program} {n0:Nat}
def cA (P:Program) (f:FuncId) (args:List V) (ai:List (Nat×Option aT)) (eW:Nat) (r:V) (J:List (Nat×Option aT)) (bB:Nat):Prop:=
 q8 P f=true/\eW<=bB /\ ∀ (F base:Nat->Prop) (w0:World) (ρ:Nat->Option Value) (w:World) (fQ:Array Value),fQ.size=args.length->eA F base ρ ai eW w0 w->(∀ j,j<args.length->cT ρ (bs F ρ ai) w (bw args j) (fQ.getD j undef)) ->
  Calls P f fQ w fun e aF=>∃ v bl,e = .returned v/\eA F base bl J bB w0 aF /\ cT bl (bs F bl J) aF r v /\ ∀ id,id<eW->bl id=ρ id
def RT (P:Program) (fn:Func) (eW:Nat) (r:V) (J:List (Nat×Option aT)) (bB:Nat) (e:Exit) (st:aW):Prop:=
 ∃ _:e = .ret\/e = .normal,∃ v gm L,r1 P st fn.results.toList=some v/\r2 eW bB L=true/\e6 (gf L) st.heap v=some gm /\ dt gm r/\wa L st.heap J
theorem Xy {c:Code} {args:List V} {ai:List (Nat×Option aT)} {r:V} (bP:q8 P f=true) (hf:P.funcs[f]? = some fn) (hb:fn.body=some c) (hn:Nat.ble args.length fn.ntmps=true) (ag:Nat.ble eW bB=true) (h:cE P eW c ⟨q9 0 args,ai,eW,fn.ntmps⟩ (RT P fn eW r J bB)):cA P f args ai eW r J bB:=by
 refine ⟨bP,bM ag,fun F base w0 ρ w fQ cZ hH iT=>calls_of_wp hf hb ?_⟩;have hn:=bM hn;have ax:e0 ρ (bs F ρ ai) w fn.ntmps (q9 0 args) { tmps:=fQ++Array.replicate (fn.ntmps - fQ.size) undef,defers:=[] }:=by
  refine ⟨by simp;omega,rfl,fun t v ak=>?_⟩;obtain ⟨_,aa,rfl⟩:=Cn 0 args t v ak;rw[Nat.sub_zero] at *;have:=iT t aa;have e:(fQ++Array.replicate (fn.ntmps - fQ.size) undef).getD t undef=fQ.getD t undef:=by
   simp[Array.getElem?_append,show t<fQ.size by omega]
  rw[e];exact this
 refine wp_mono (h F base w0 ρ _ w hH ax) ?_;rintro e hx aF ⟨bl,bq,⟨he,v,gm,L,ak,cw,hr,p2,Gq⟩,n5,aa,az⟩;obtain ⟨u,g1,g2⟩:=Gr (fn:=fn) n5 aa ak;have lY:=Co cw;have hh:=Fh Gq;have r3:=p2.rel (K1 lY n5 hh g2 hr);have CT:∃ aa4 mW,(Exit.ret=Exit.ret->True)/\eA F base mW J bB w0 aF /\ cT mW (bs F mW J) aF r aa4 /\ ∀ id,id<eW->mW id=ρ id:=
  ⟨u,kf bl (gf L) (ic L),fun _=>trivial,Fg lY n5 hh,r3,fun id hid=>(qk lY (lY.low hid)).trans (az id hid)⟩
 rcases he with rfl|rfl
 ·exact⟨aa.defers,u,g1,u,_,rfl,Fg lY n5 hh,r3,fun id hid=>(qk lY (lY.low hid)).trans (az id hid)⟩
 ·exact⟨aa.defers,u,g1,u,_,rfl,Fg lY n5 hh,r3,fun id hid=>(qk lY (lY.low hid)).trans (az id hid)⟩
def cz (m:Nat->Nat):V->V
 | .own id=>.own (m id)
 | .ptr id i s j=>.ptr (m id) i s j
 | .agg cs=>.agg (ej cs)
 | .bN cs=>.bN (ej cs)
 | .fs f cs=>.fs f (ej cs)
 | v=>v
where ej:List V->List V
 | []=>[]
 | c :: cs=>cz m c :: ej cs
theorem kD {m:Nat->Nat}:∀ (cs:List V),(cz.ej m cs).length=cs.length
 | []=>rfl
 | c :: cs=>by simp only[cz.ej,eb,kD cs]
theorem mR {m:Nat->Nat}:∀ {cs:List V} {j:Nat},j<cs.length->bw (cz.ej m cs) j=cz m (bw cs j)
 | [],j,h=>by simp at h
 | c :: cs,0,_=>rfl
 | c :: cs,j+1,h=>by
  have:=mR (m:=m) (cs:=cs) (j:=j) (by simpa using h);simpa[bw,cz.ej] using this
def jm (m:Nat->Nat):aT->aT
 | .box t cs=>.box t (cz.ej m cs)
 | .ch e s l=>.ch e s (l.map (cz.ej m))
 | B=>B
theorem Bk {m:Nat->Nat} {l:List (List V)} (h:i<l.length):bb (l.map (cz.ej m)) i=cz.ej m (bb l i):=by
 unfold bb;rw[bZ,bZ,qn,eB h];rfl
theorem ot {m:Nat->Nat}:(jm m B).owns=B.owns:=by cases B <;> rfl
def hA (m:Nat->Nat):List (Nat×Option aT)->List (Nat×Option aT)
 | []=>[]
 | (id,B) :: r=>(m id,B.map (jm m)) :: hA m r
def hO:List Nat->List (Nat×Option aT)
 | []=>[]
 | i :: r=>(i,none) :: hO r
theorem K4:∀ (M:List Nat) (h:List (Nat×Option aT)) (id:Nat),aM (hO M++h) id=if id ∈ M then none else aM h id
 | [],h,id=>by simp[hO]
 | i :: r,h,id=>by
  simp only[hO,jv,cl,K4 r h id,hX];by_cases e:i=id
  ·subst e;simp
  ·have kp:¬ id=i:=fun h=>e h.symm
   simp[e,kp]
theorem RU {m:Nat->Nat} {bB:Nat}:∀ (h:List (Nat×Option aT)) (H:List (Nat×Option aT)) (x:Nat),(∀ i,i<bB->m i≠x)->(∀ p ∈ h,p.1<bB)->aM (hA m h++H) x=aM H x
 | [],H,x,_,_=>rfl
 | (id,B) :: r,H,x,U,ag=>by
  simp only[hA,jv,cl];rw[ah (U id (ag (id,B) (fV ..)))];exact RU r H x U (fun p ar=>ag p (ha _ ar))
theorem RV {m:Nat->Nat} {bB:Nat} (Fk:∀ i j,i<bB->j<bB->m i=m j->i=j):∀ (h:List (Nat×Option aT)) (H:List (Nat×Option aT)) (i:Nat),i<bB->(∀ p ∈ h,p.1<bB)->aM H (m i)=none->aM (hA m h++H) (m i)=(aM h i).map (jm m)
 | [],H,i,_,_,hn=>by simp[hA,aM,hn]
 | (id,B) :: r,H,i,hi,ag,hn=>by
  simp only[hA,jv,cl];by_cases e:id=i
  ·subst e;simp
  ·rw[ah (fun h=>e (Fk _ _ (ag (id,B) (fV ..)) hi h)),ah e];exact RV Fk r H i hi (fun p ar=>ag p (ha _ ar)) hn
theorem yR {ρ:Nat->Option Value} {w:World} {m:Nat->Nat} (hS:∀ b,S b->b<w.heap.size->iE b) (ff:∀ id u,ρ (m id)=some u->bl id=some u):∀ {v:V} {u:Value},cT ρ S w (cz m v) u->cT bl iE w v u:=by
 intro v u h;generalize U:cz m v=x at h;induction h generalizing v with
 | @pure y u h=>
  have ak:v=y:=by
   cases h <;> cases v <;> simp only[cz] at U <;> first|exact U|cases U
  subst ak;exact .pure (h.mono (dl.refl _ _) hS)
 | own h=>cases v <;> simp only[cz] at U <;> first|(injection U with U;subst U;exact .own (ff _ _ h))|cases U
 | ptr h hb=>cases v <;> simp only[cz] at U <;> first|(injection U with J aa az bk;subst J aa az bk;exact .ptr (ff _ _ h) hb)|cases U
 | fk us pP hc hr=>
  cases v <;> simp only[cz] at U <;> first|(injection U with U;subst U;exact .fk us (fun h=>hS _ (pP h) (qK (hc 0 h))) hc (fun j ad=>(hr j ad).mono (dl.refl _ _) hS))|cases U
 | agg hn h bU=>
  cases v <;> simp only[cz] at U <;> first|(injection U with U;subst U;rw[kD] at hn;exact .agg hn (fun j ad=>bU j (by rw[kD];exact ad) (mR ad).symm))|cases U
 | bN hn h bU=>
  cases v <;> simp only[cz] at U <;> first|(injection U with U;subst U;rw[kD] at hn;exact .bN hn (fun j ad=>bU j (by rw[kD];exact ad) (mR ad).symm))|cases U
 | fs hn h bU=>
  cases v <;> simp only[cz] at U <;> first|(injection U with J U;subst J U;rw[kD] at hn;exact .fs hn (fun j ad=>bU j (by rw[kD];exact ad) (mR ad).symm))|cases U
 | any u=>cases v <;> simp only[cz] at U <;> first|exact .any u|cases U
 | gN=>cases v <;> simp only[cz] at U <;> first|exact .gN|cases U
theorem tq {ρ:Nat->Option Value} {w:World} {m:Nat->Nat} (hS:∀ b,S b->b<w.heap.size->iE b) (ff:∀ id u,ρ id=some u->bl (m id)=some u) {v:V} (h:cT ρ S w v u):cT bl iE w (cz m v) u:=by
 induction h with
 | @pure y u h=>
  have ak:cz m y=y:=by cases h <;> rfl
  rw[ak];exact .pure (h.mono (dl.refl _ _) hS)
 | own h=>exact .own (ff _ _ h)
 | ptr h hb=>exact .ptr (ff _ _ h) hb
 | fk us pP hc hr=>exact .fk us (fun h=>hS _ (pP h) (qK (hc 0 h))) hc (fun j ad=>(hr j ad).mono (dl.refl _ _) hS)
 | agg hn h bU=>exact .agg (by rw[kD];exact hn) (fun j ad=>by rw[kD] at ad;rw[mR ad];exact bU j ad)
 | bN hn h bU=>exact .bN (by rw[kD];exact hn) (fun j ad=>by rw[kD] at ad;rw[mR ad];exact bU j ad)
 | fs hn h bU=>exact .fs (by rw[kD];exact hn) (fun j ad=>by rw[kD] at ad;rw[mR ad];exact bU j ad)
 | any u=>exact .any u
 | gN=>exact .gN
def cp (L:List Nat) (D:Nat) (i:Nat):Nat:=L.getD i D
def kF:List Nat->Bool
 | []=>true
 | a :: l=>!ow l a && kF l
theorem x2:∀ {l:List Nat} {a:Nat},a ∈ l->ow l a=true
 | [],a,h=>by cases h
 | b :: l,a,h=>by
  simp only[ow,Bool.or_eq_true];rcases hX.1 h with rfl|h
  ·exact .inl (Nat.beq_refl _)
  ·exact .inr (x2 h)
theorem wb {l:List Nat} (h:i<l.length):l.getD i 0 ∈ l:=by rw[bZ,eB h];exact List.getElem_mem h
theorem RW:∀ {l:List Nat},kF l=true -> ∀ i j,i<l.length->j<l.length->l.getD i 0=l.getD j 0->i=j
 | [],_,i,j,hi,_,_=>by simp at hi
 | a :: l,h,i,j,hi,ad,he=>by
  simp only[kF,fM,Bool.not_eq_true'] at h;rcases i with _|i
  ·rcases j with _|j
   ·rfl
   ·exfalso;have hm:a ∈ l:=by
     have:=wb (l:=l) (i:=j) kY;have e:a=l.getD j 0:=by simpa using he
     rw[e];exact this
    rw[x2 hm] at h;exact Bool.noConfusion h.1
  ·rcases j with _|j
   ·exfalso;have hm:a ∈ l:=by
     have:=wb (l:=l) (i:=i) (by simpa using hi);have e:l.getD i 0=a:=by simpa using he
     rw[<- e];exact this
    rw[x2 hm] at h;exact Bool.noConfusion h.1
   ·rw[RW h.2 i j (by simpa using hi) kY (by simpa using he)]
theorem RX {L:List Nat} {D:Nat} (h:kF L=true) (hi:i<L.length) (ad:j<L.length) (he:cp L D i=cp L D j):i=j:=by
 unfold cp at he;refine RW h i j hi ad ?_;rw[bZ,eB hi] at he ⊢;rw[bZ,eB ad] at he ⊢;exact he
theorem aa5 {M V:List Nat} {D:Nat} (h:i<M.length):cp (M++V) D i=M.getD i 0:=by
 unfold cp;rw[bZ,bZ,sh h,eB h];rfl
theorem Fl {M V:List Nat} {D:Nat} (h:M.length<=i) (aa:i<M.length+V.length):cp (M++V) D i=V.getD (i - M.length) 0:=by
 unfold cp;rw[bZ,bZ,sg h,eB (by omega)];rfl
theorem aa6 {L:List Nat} {D:Nat} (h:L.length<=i):cp L D i=D:=by
 unfold cp;rw[bZ,List.getElem?_eq_none h];rfl
theorem RY:∀ {M V:List Nat},kF (M++V)=true -> ∀ x,x ∈ M->x ∈ V->False
 | [],V,_,x,h,_=>by cases h
 | a :: M,V,h,x,U,ak=>by
  simp only[jv,kF,fM,Bool.not_eq_true'] at h;rcases hX.1 U with rfl|U
  ·rw[x2 (List.mem_append_right _ ak)] at h;exact Bool.noConfusion h.1
  ·exact RY h.2 x U ak
theorem RZ:∀ {M V:List Nat},kF (M++V)=true->kF V=true
 | [],_,h=>h
 | a :: M,V,h=>by
  simp only[jv,kF,fM] at h;exact RZ h.2
def Bz:List Nat->Nat->Nat
 | [],_=>0
 | a :: l,x=>bif Nat.beq a x then 0 else Bz l x+1
theorem R0:∀ {l:List Nat},kF l=true -> ∀ i,i<l.length->Bz l (l.getD i 0)=i
 | [],_,i,hi=>by simp at hi
 | a :: l,h,0,_=>by simp[Bz]
 | a :: l,h,i+1,hi=>by
  have c6:=h;simp only[kF,fM,Bool.not_eq_true'] at c6;have e:(a :: l).getD (i+1) 0=l.getD i 0:=by simp
  have bW:i<l.length:=by simpa using hi
  rw[e];unfold Bz;have ct:Nat.beq a (l.getD i 0)=false:=by
   cases hb:Nat.beq a (l.getD i 0) with
   | false=>rfl
   | true=>
    have:=iF hb;rw[x2 (by rw[this];exact wb bW)] at c6;exact absurd c6.1 (by simp)
  rw[ct,R0 c6.2 i bW];rfl
theorem Fm:∀ {l:List Nat} {a:Nat},ow l a=true->a ∈ l
 | [],a,h=>by cases h
 | b :: l,a,h=>by
  simp only[ow,Bool.or_eq_true] at h;rcases h with h|h
  ·rw[iF h];exact fV ..
  ·exact ha _ (Fm h)
def ox (m:Nat->Nat) (eW:Nat) (heap:List (Nat×Option aT)):List (Nat×Option aT)->Prop
 | []=>True
 | (id,none) :: r=>ox m eW heap r
 | (id,some B) :: r=>(Nat.blt id eW=true/\aM heap (m id)=some (jm m B))/\ox m eW heap r
theorem K5 {m:Nat->Nat} {eW:Nat} {heap:List (Nat×Option aT)}:∀ {e:List (Nat×Option aT)},ox m eW heap e -> ∀ id B,aM e id=some B->id<eW/\aM heap (m id)=some (jm m B)
 | [],_,t,v,h=>by simp[aM] at h
 | (s,none) :: r,hc,t,v,h=>by
  rw[cl] at h;split at h
  ·cases h
  ·exact K5 (e:=r) hc t v h
 | (s,some u) :: r,hc,t,v,h=>by
  rw[cl] at h;split at h
  ·rename_i e;subst e;injection h with h;subst h;exact⟨bM hc.1.1,hc.1.2⟩
  ·exact K5 (e:=r) hc.2 t v h
theorem aa7 {m:Nat->Nat} {t:TypeId} {cs:List V}:jm m (.box t cs) = .box t (cz.ej m cs):=rfl
def BA (w:World) (ρ:Nat->Option Value) (ai:List (Nat×Option aT)) (m:Nat->Nat) (b:Nat):Prop:=w.heap.size<=b \/ ∃ id B u,aM ai id=some B/\B.owns=true/\ρ (m id)=some u/\dU u=some b
def x3 (F:Nat->Prop) (w:World) (ρ:Nat->Option Value) (heap ai:List (Nat×Option aT)) (m:Nat->Nat) (b:Nat):Prop:=bs F ρ heap b\/BA w ρ ai m b
def uq (ρ:Nat->Option Value) (eW:Nat) (m:Nat->Nat) (i:Nat):Option Value:=if i<eW then ρ (m i) else none
theorem BB {ρ:Nat->Option Value} {m:Nat->Nat} (h:uq ρ eW m i=some u):i<eW/\ρ (m i)=some u:=by
 unfold uq at h;split at h
 ·exact⟨by assumption,h⟩
 ·cases h
theorem K6 {ρ:Nat->Option Value} {m:Nat->Nat} (h:i<eW):uq ρ eW m i=ρ (m i):=al h
section
variable {F base:Nat->Prop} {ρ:Nat->Option Value} {heap ai:List (Nat×Option aT)} {N D:Nat} {w0 w:World} {M V:List Nat}
theorem CR (hh:∀ id B,aM ai id=some B->id<M.length/\aM heap (cp (M++V) D id)=some (jm (cp (M++V) D) B)) {b:Nat} (h:bs F ρ heap b):bs (x3 F w ρ heap ai (cp (M++V) D)) (uq ρ M.length (cp (M++V) D)) ai b:=
 ⟨.inl h,fun id B u an ae hu=>h.2 _ (jm (cp (M++V) D) B) u (hh id B an).2 (by rw[ot];exact ae) (BB hu).2⟩
theorem yS (jl:∀ v,v ∈ V->ρ v=none) (hY:ρ D=none) (hu:ρ (cp (M++V) D id)=some u):uq ρ M.length (cp (M++V) D) id=some u:=by
 by_cases hi:id<M.length
 ·rw[K6 hi];exact hu
 ·exfalso;by_cases aa:id<M.length+V.length
  ·rw[Fl (by omega) aa,jl _ (wb (by omega))] at hu;cases hu
  ·rw[aa6 (by rw[eE];omega),hY] at hu;cases hu
theorem Hd (hH:eA F base ρ heap N w0 w) (hZ:kF (M++V)=true) (jl:∀ v,v ∈ V->ρ v=none) (hY:ρ D=none) (hh:∀ id B,aM ai id=some B->id<M.length/\aM heap (cp (M++V) D id)=some (jm (cp (M++V) D) B)) :
  eA (x3 F w ρ heap ai (cp (M++V) D)) (BA w ρ ai (cp (M++V) D)) (uq ρ M.length (cp (M++V) D)) ai M.length w w:=by
 have hS:∀ b,bs F ρ heap b->b<w.heap.size->bs (x3 F w ρ heap ai (cp (M++V) D)) (uq ρ M.length (cp (M++V) D)) ai b:=fun b h _=>CR hh h
 refine ⟨⟨o3.refl _ _,fun b hb=>.inl hb,fun id u hu=>⟨(BB hu).1,(hH.sup _ u (BB hu).2).2⟩,fun id dk B bd u dD b an b0 ae dK hu c2 hb cG=>?_,fun id B an=>?_⟩,fun b hb=>.inr hb⟩
 ·have:=hH.inj _ _ _ _ _ _ b (hh id B an).2 (hh dk bd b0).2 (by rw[ot];exact ae) (by rw[ot];exact dK) (BB hu).2 (BB c2).2 hb cG;exact RX hZ (by rw[eE];have:=(hh id B an).1;omega) (by rw[eE];have:=(hh dk bd b0).1;omega) this
 ·obtain ⟨bW,hb⟩:=hh id B an;have eS:=hH.cJ _ _ hb;have e:=K6 (ρ:=ρ) (m:=cp (M++V) D) bW
  cases B with
  | box t cs=>
   rw[aa7] at eS;obtain ⟨b,us,aL,aS,bi,cq,e3⟩:=eS;rw[kD] at cq e3;refine ⟨b,us,by rw[e];exact aL,.inr ⟨id,_,_,an,rfl,aL,rfl⟩,bi,cq,fun j ad=>⟨?_,(e3 j ad).2⟩⟩;have:=(e3 j ad).1;rw[mR ad] at this;exact yR hS (fun i u hu=>yS jl hY hu) this
  | row ty s l=>
   obtain ⟨qT,v,xs,aL,⟨aS,BC⟩,bi,cq⟩:=eS
   exact⟨qT,v,xs,by rw[e];exact aL,⟨aS,fun b hb=>.inr ⟨id,_,_,an,rfl,aL,hb⟩⟩,bi,fun i j hi ad=>by
    obtain ⟨u,hu,ar,ae⟩:=cq i j hi ad
    exact⟨u,hu,ar.mono (dl.refl _ _) hS,ae⟩⟩
  | dY l=>
   obtain ⟨v,aL,aS,bi⟩:=eS;exact⟨v,by rw[e];exact aL,aS.mono (dl.refl _ _) hS,bi⟩
  | map q es=>
   obtain ⟨b,b3,clock,aL,aS,bi⟩:=eS;exact⟨b,b3,clock,by rw[e];exact aL,.inr ⟨id,_,_,an,rfl,aL,rfl⟩,bi⟩
  | obj o=>
   obtain ⟨b,aL,aS,bi⟩:=eS;exact⟨b,by rw[e];exact aL,.inr ⟨id,_,_,an,rfl,aL,rfl⟩,bi⟩
  | mV be lL=>
   obtain ⟨b,cap,cQ,jq,aL,aS,bi⟩:=eS;exact⟨b,cap,cQ,jq,by rw[e];exact aL,.inr ⟨id,_,_,an,rfl,aL,rfl⟩,bi⟩
  | ch ty s l=>
   obtain ⟨qT,v,xs,aL,⟨aS,BC⟩,bi,cq⟩:=eS;rw[bY] at aS bi cq;have hf:∀ i,i<l.length->bb (l.map (cz.ej (cp (M++V) D))) i=cz.ej (cp (M++V) D) (bb l i):=fun i hi=>Bk hi
   have iZ:∀ i,i<l.length->(bb l i).length=s:=fun i hi=>by have:=bi i hi;rwa [hf i hi,kD] at this
   exact⟨qT,v,xs,by rw[e];exact aL,⟨aS,fun b hb=>.inr ⟨id,_,_,an,rfl,aL,hb⟩⟩,iZ,fun i j hi ad=>by
    obtain ⟨u,hu,ar,ae⟩:=cq i j hi ad;rw[hf i hi,mR (by rw[iZ i hi];exact ad)] at ar
    exact⟨u,hu,yR hS (fun i u hu=>yS jl hY hu) ar,ae⟩⟩
  | gF q es=>
   obtain ⟨b,b3,clock,aL,aS,bi⟩:=eS;exact⟨b,b3,clock,by rw[e];exact aL,hS b aS (gB.1 bi.1).1,bi⟩
  | iter left cQ=>
   obtain ⟨r,b,b3,clock,since,seen,dz,aL,aS,bi,cq,e3⟩:=eS;exact⟨r,b,b3,clock,since,seen,dz,by rw[e];exact aL,.inr ⟨id,_,_,an,rfl,aL,rfl⟩,bi,hS b cq (gB.1 e3.1).1,e3⟩
def mT (ρ bl:Nat->Option Value) (eW:Nat) (V:List Nat) (id:Nat):Option Value:=if ow V id=true then bl (eW+Bz V id) else ρ id
theorem w5 {ρ:Nat->Option Value} {V:List Nat} (h:id ∉ V):mT ρ bl eW V id=ρ id:=ah (fun hm=>h (Fm hm))
theorem He (hH:eA F base ρ heap N w0 w) (hZ:kF (M++V)=true) (jl:∀ v,v ∈ V->ρ v=none) (BD:∀ v,v ∈ V->v<mS) (BE:N<=mS) (hY:ρ D=none) (hh:∀ id B,aM ai id=some B->id<M.length/\aM heap (cp (M++V) D id)=some (jm (cp (M++V) D) B)) (ag:bB=M.length+V.length) (jY:∀ p ∈ J,p.1<bB) (dZ:eA (x3 F w ρ heap ai (cp (M++V) D)) (BA w ρ ai (cp (M++V) D)) bl J bB w aF) (aa8:∀ id,id<M.length->bl id=uq ρ M.length (cp (M++V) D) id) :
  eA F base (mT ρ bl M.length V) (hA (cp (M++V) D) J++(hO M++heap)) mS w0 aF /\
  (∀ b,bs F ρ heap b->b<w.heap.size->bs F (mT ρ bl M.length V) (hA (cp (M++V) D) J++(hO M++heap)) b) /\
  (∀ b,bs (x3 F w ρ heap ai (cp (M++V) D)) bl J b->b<aF.heap.size->bs F (mT ρ bl M.length V) (hA (cp (M++V) D) J++(hO M++heap)) b)/\dl (bs F ρ heap) w aF /\
  (∀ id u,bl id=some u->mT ρ bl M.length V (cp (M++V) D id)=some u)/\(∀ id u,ρ id=some u->mT ρ bl M.length V id=some u):=by
 have hlen:(M++V).length=bB:=by rw[eE,ag]
 have Fk:∀ i j,i<bB->j<bB->cp (M++V) D i=cp (M++V) D j->i=j:=fun i j hi ad h=>RX hZ (by omega) (by omega) h
 have u1:∀ id u,ρ id=some u->id ∉ V:=fun id u hu ak=>by rw[jl id ak] at hu;cases hu
 have R1:∀ i,i<M.length->cp (M++V) D i ∈ M:=fun i hi=>by rw[aa5 hi];exact wb hi
 have p0:∀ i,i<bB->mT ρ bl M.length V (cp (M++V) D i)=bl i:=fun i hi=>by
  by_cases ao:i<M.length
  ·rw[w5 (fun ak=>RY hZ _ (R1 i ao) ak),aa8 i ao,K6 ao]
  ·have ak:cp (M++V) D i ∈ V:=by rw[Fl (by omega) (by omega)];exact wb (by omega)
   unfold mT;rw[al (x2 ak),Fl (by omega) (by omega),R0 (RZ hZ) _ (by omega)];congr 1;omega
 have my:∀ id B,aM (hA (cp (M++V) D) J++(hO M++heap)) id=some B->(∃ i bd,i<bB/\id=cp (M++V) D i/\aM J i=some bd /\ B=jm (cp (M++V) D) bd)\/((∀ i,i<bB->cp (M++V) D i≠id)/\id ∉ M/\aM heap id=some B):=fun id B an=>by
  by_cases U:∃ i,i<bB/\cp (M++V) D i=id
  ·obtain ⟨i,hi,rfl⟩:=U;left;have hn:aM (hO M++heap) (cp (M++V) D i)=none:=by
    rw[K4];by_cases ao:i<M.length
    ·rw[al (R1 i ao)]
    ·split
     ·rfl
     ·cases av:aM heap (cp (M++V) D i) with
      | none=>rfl
      | some X=>
       obtain ⟨u,hu⟩:=hH.nd av;exact absurd (by rw[Fl (by omega) (by omega)];exact wb (by omega)) (u1 _ u hu)
   rw[RV Fk J _ i hi jY hn] at an
   cases av:aM J i with
   | none=>rw[av] at an;cases an
   | some bd=>rw[av] at an;injection an with an;exact⟨i,bd,hi,rfl,av,an.symm⟩
  ·right;have qM:∀ i,i<bB->cp (M++V) D i≠id:=fun i hi he=>U ⟨i,hi,he⟩
   rw[RU J _ id qM jY,K4] at an;split at an
   ·cases an
   ·exact⟨qM,by assumption,an⟩
 have fl:∀ b,BA w ρ ai (cp (M++V) D) b->base b:=fun b hb=>by
  rcases hb with hb | ⟨id,B,u,an,ae,hu,hl⟩
  ·exact hH.fl b hb
  ·exact(hH.owned (hh id B an).2 (by rw[ot];exact ae) hu hl).1
 have Fo:∀ id B u b,(∀ i,i<bB->cp (M++V) D i≠id)->aM heap id=some B->B.owns=true->ρ id=some u->dU u=some b->b<w.heap.size /\ ¬ BA w ρ ai (cp (M++V) D) b:=fun id B u b ct an ae hu hl=>by
  have bW:=(hH.owned an ae hu hl).2;refine ⟨bW,fun hc=>?_⟩;rcases hc with hc | ⟨dk,bd,dD,b0,dK,c2,aa9⟩
  ·omega
  ·have:=hH.inj _ _ _ _ _ _ b (hh dk bd b0).2 an (by rw[ot];exact dK) ae c2 hu aa9 hl;exact ct dk (by have:=(hh dk bd b0).1;omega) this
 have BF:∀ id B,aM heap id=some B->mT ρ bl M.length V id=ρ id:=fun id B an=>by
  obtain ⟨u,hu⟩:=hH.nd an;exact w5 (u1 id u hu)
 have R2:∀ b,bs F ρ heap b->b<w.heap.size->bs F (mT ρ bl M.length V) (hA (cp (M++V) D) J++(hO M++heap)) b:=fun b h bW=>by
  refine ⟨h.1,fun id B u an ae hu hl=>?_⟩;rcases my id B an with⟨i,bd,hi,rfl,av,rfl⟩ | ⟨ct,_,av⟩
  ·rw[p0 i hi] at hu;rw[ot] at ae;rcases (dZ.owned av ae hu hl).1 with hc | ⟨dk,aba,N8,KD,LV,mv,k3⟩
   ·omega
   ·exact h.2 _ _ _ (hh dk aba KD).2 (by rw[ot];exact LV) mv k3
  ·rw[BF id B av] at hu;exact h.2 id B u av ae hu hl
 have o4:∀ b,bs (x3 F w ρ heap ai (cp (M++V) D)) bl J b->b<aF.heap.size->bs F (mT ρ bl M.length V) (hA (cp (M++V) D) J++(hO M++heap)) b:=fun b h bW=>by
  refine ⟨?_,fun id B u an ae hu hl=>?_⟩
  ·rcases h.1 with J|J
   ·exact J.1
   ·exact hH.dX b (fl b J)
  ·rcases my id B an with⟨i,bd,hi,rfl,av,rfl⟩ | ⟨ct,_,av⟩
   ·rw[p0 i hi] at hu;rw[ot] at ae;exact h.2 i bd u av ae hu hl
   ·rw[BF id B av] at hu;rcases h.1 with J|J
    ·exact J.2 id B u av ae hu hl
    ·exact(Fo id B u b ct av ae hu hl).2 J
 have dc:dl (bs F ρ heap) w aF:=fun b h bW=>dZ.below.block b bW (fun hc=>by
  rcases hc with hc | ⟨id,B,u,an,ae,hu,hl⟩
  ·omega
  ·exact h.2 _ _ _ (hh id B an).2 (by rw[ot];exact ae) hu hl)
 have rR:∀ id u,bl id=some u->mT ρ bl M.length V (cp (M++V) D id)=some u:=fun id u hu=>by rw[p0 id (dZ.sup _ _ hu).1];exact hu
 have R3:∀ id u,ρ id=some u->mT ρ bl M.length V id=some u:=fun id u hu=>by rw[w5 (u1 id u hu)];exact hu
 refine ⟨⟨⟨?_,fun b hb=>hH.fl b (qJ dZ.below.size hb),?_,?_,?_⟩,hH.dX⟩,R2,o4,dc,rR,R3⟩
 ·exact hH.below.trans ⟨dZ.below.os,dZ.below.tape,dZ.below.output,dZ.below.size,fun k ag hb=>dZ.below.block k ag (fun hc=>hb (fl k hc))⟩
 ·intro id u hu;unfold mT at hu;split at hu
  ·rename_i hm;exact⟨BD _ (Fm hm),(dZ.sup _ _ hu).2⟩
  ·exact⟨Nat.lt_of_lt_of_le (hH.sup _ _ hu).1 BE,(hH.sup _ _ hu).2⟩
 ·intro id dk B bd u dD b an b0 ae dK hu c2 hb cG;rcases my id B an with⟨i,X,hi,rfl,av,rfl⟩ | ⟨ct,abb,av⟩
  ·rw[p0 i hi] at hu;rw[ot] at ae;rcases my dk bd b0 with⟨zY,abc,oC,rfl,oq,rfl⟩ | ⟨Cs,_,oq⟩
   ·rw[p0 zY oC] at c2;rw[ot] at dK;rw[dZ.inj _ _ _ _ _ _ b av oq ae dK hu c2 hb cG]
   ·exfalso;rw[BF dk bd oq] at c2;exact(Fo dk bd dD b Cs oq dK c2 cG).2 (dZ.owned av ae hu hb).1
  ·rw[BF id B av] at hu;rcases my dk bd b0 with⟨zY,abc,oC,rfl,oq,rfl⟩ | ⟨Cs,_,oq⟩
   ·exfalso;rw[p0 zY oC] at c2;rw[ot] at dK;exact(Fo id B u b ct av ae hu hb).2 (dZ.owned oq dK c2 cG).1
   ·rw[BF dk bd oq] at c2;exact hH.inj _ _ _ _ _ _ b av oq ae dK hu c2 hb cG
 ·intro id B an;rcases my id B an with⟨i,X,hi,rfl,av,rfl⟩ | ⟨ct,abb,av⟩
  ·have eS:=dZ.cJ i X av;have e:=p0 i hi
   cases X with
   | box t cs=>
    obtain ⟨b,us,aL,aS,bi,cq,e3⟩:=eS
    exact⟨b,us,by rw[e];exact aL,fl b aS,bi,by rw[kD];exact cq,fun j ad=>by
     rw[kD] at ad;rw[mR ad]
     exact⟨tq o4 rR (e3 j ad).1,(e3 j ad).2⟩⟩
   | row ty s l=>
    obtain ⟨qT,v,xs,aL,⟨aS,BC⟩,bi,cq⟩:=eS
    exact⟨qT,v,xs,by rw[e];exact aL,⟨aS,fun b hb=>fl b (BC b hb)⟩,bi,fun i j hi ad=>by
     obtain ⟨u,hu,ar,ae⟩:=cq i j hi ad
     exact⟨u,hu,ar.mono (dl.refl _ _) o4,ae⟩⟩
   | dY l=>
    obtain ⟨v,aL,aS,bi⟩:=eS;exact⟨v,by rw[e];exact aL,aS.mono (dl.refl _ _) o4,bi⟩
   | map q es=>
    obtain ⟨b,b3,clock,aL,aS,bi⟩:=eS;exact⟨b,b3,clock,by rw[e];exact aL,fl b aS,bi⟩
   | obj o=>
    obtain ⟨b,aL,aS,bi⟩:=eS;exact⟨b,by rw[e];exact aL,fl b aS,bi⟩
   | mV be lL=>
    obtain ⟨b,cap,cQ,jq,aL,aS,bi⟩:=eS;exact⟨b,cap,cQ,jq,by rw[e];exact aL,fl b aS,bi⟩
   | ch ty s l=>
    obtain ⟨qT,v,xs,aL,⟨aS,BC⟩,bi,cq⟩:=eS;refine ⟨qT,v,xs,by rw[e];exact aL,⟨by rw[bY];exact aS,fun b hb=>fl b (BC b hb)⟩,fun k ag=>?_,fun k j ag ad=>?_⟩
    ·rw[bY] at ag;rw[Bk ag,kD];exact bi k ag
    ·rw[bY] at ag;obtain ⟨u,hu,ar,ae⟩:=cq k j ag ad;rw[Bk ag,mR (by rw[bi k ag];exact ad)];exact⟨u,hu,tq o4 rR ar,ae⟩
   | gF q es=>
    obtain ⟨b,b3,clock,aL,aS,bi⟩:=eS;exact⟨b,b3,clock,by rw[e];exact aL,o4 b aS (gB.1 bi.1).1,bi⟩
   | iter left cQ=>
    obtain ⟨r,b,b3,clock,since,seen,dz,aL,aS,bi,cq,e3⟩:=eS;exact⟨r,b,b3,clock,since,seen,dz,by rw[e];exact aL,fl r aS,bi,o4 b cq (gB.1 e3.1).1,e3⟩
  ·refine (hH.cJ id B av).mono dc R2 R3 (fun ae u b hu hb bW=>?_);exact dZ.below.block b bW (Fo id B u b ct av ae hu hb).2
end
theorem R4 {o:Oper} {st:aW} {vs cP:List V} {r:V} {ai:List (Nat×Option aT)} {D:Nat} (M V:List Nat) (hf:cA P f cP ai M.length r J bB) (aN:mX st.af o.dst=true) (hw:ez vs (cz.ej (cp (M++V) D) cP)) (hZ:kF (M++V)=true) (hh:ox (cp (M++V) D) M.length st.heap ai) (ag:bB=M.length+V.length) (jY:J.all (fun p=>Nat.blt p.1 bB)=true) (BD:∀ v,v ∈ V->v<mS) (BE:st.next<=mS) {F base:Nat->Prop} {w0:World} {ρ:Nat->Option Value} {a:Act} {w:World} (hH:eA F base ρ st.heap st.next w0 w) (ax:e0 ρ (bs F ρ st.heap) w st.af st.env a) (jl:∀ v,v ∈ V->ρ v=none) (hY:ρ D=none) {fQ:Array Value} (jB:(execOp a.eval o).run P w = .ok (.enter f fQ) w) (cZ:fQ.size=vs.length) (a7:∀ j,j<vs.length->cT ρ (bs F ρ st.heap) w (bw vs j) (fQ.getD j undef)) :
  o.wp P a w (fun hx aF=>∃ bl,eA F base bl (hA (cp (M++V) D) J++(hO M++st.heap)) mS w0 aF /\ e0 bl (bs F bl (hA (cp (M++V) D) J++(hO M++st.heap))) aF st.af (st.put o.dst (cz (cp (M++V) D) r)).env hx /\ (∀ id u,ρ id=some u->bl id=some u) /\ ∀ id,id ∉ V->bl id=ρ id) (fun _ _ _=>False):=by
 have hh:=K5 hh;have jY:∀ p ∈ J,p.1<bB:=fun p ar=>bM (lG.1 jY p ar)
 have ao:=ez.rel (ρ:=ρ) (S:=bs F ρ st.heap) (w:=w) hw;rw[kD] at ao;unfold Oper.wp;rw[jB,Oper.upon_enter];refine (hf.2.2 _ _ w _ w fQ (by rw[cZ,ao.1]) (Hd hH hZ jl hY hh) (fun j ad=>?_)).mono ?_
 ·have h:=ao.2 j (by omega) (a7 j (by omega));rw[mR ad] at h;exact yR (fun b h _=>CR hh h) (fun i u hu=>yS jl hY hu) h
 ·rintro e aF ⟨v,bl,rfl,aL,aS,bi⟩;obtain ⟨dg,db,gq,ka,hj,tp⟩:=He hH hZ jl BD BE hY hh ag jY aL bi;have ua:=ax.mono ka db tp;refine ⟨_,dg,?_,tp,fun id hid=>w5 hid⟩;have ak:=tq gq hj aS
  cases hd:o.dst with
  | none=>exact ua
  | some d=>
   rw[hd] at aN;exact ua.put (bM aN) ak
theorem R5 {o:Oper} {st:aW} {vs cP:List V} {r:V} {ai:List (Nat×Option aT)} {D:Nat} (M V:List Nat) (hf:cA P f cP ai M.length r J bB) (ae:o.op = .call { callee:=.value (.func f),args:=xs,argTypes:=ts }) (aN:mX st.af o.dst=true) (U:h3 st.env xs.toList=some vs) (hw:ez vs (cz.ej (cp (M++V) D) cP)) (hZ:kF (M++V)=true) (hh:ox (cp (M++V) D) M.length st.heap ai) (ag:bB=M.length+V.length) (jY:J.all (fun p=>Nat.blt p.1 bB)=true) (BD:∀ v,v ∈ V->v<mS) (BE:st.next<=mS) {F base:Nat->Prop} {w0:World} {ρ:Nat->Option Value} {a:Act} {w:World} (hH:eA F base ρ st.heap st.next w0 w) (ax:e0 ρ (bs F ρ st.heap) w st.af st.env a) (jl:∀ v,v ∈ V->ρ v=none) (hY:ρ D=none) :
  o.wp P a w (fun hx aF=>∃ bl,eA F base bl (hA (cp (M++V) D) J++(hO M++st.heap)) mS w0 aF /\ e0 bl (bs F bl (hA (cp (M++V) D) J++(hO M++st.heap))) aF st.af (st.put o.dst (cz (cp (M++V) D) r)).env hx /\ (∀ id u,ρ id=some u->bl id=some u) /\ ∀ id,id ∉ V->bl id=ρ id) (fun _ _ _=>False):=by
 obtain ⟨aI,a7⟩:=zW ax U;refine R4 M V hf aN hw hZ hh ag jY BD BE hH ax jl hY (IJ ae hf.1 a w) (by rw[aI];simp) (fun j ad=>?_);have h:=a7 j ad;have cC:(xs.toList.map a.eval).getD j undef=(xs.map a.eval).getD j undef:=by
  rw[bZ,gg,<- Array.toList_map];simp
 rwa [cC] at h
def jF (N:Nat):Nat->List Nat
 | 0=>[]
 | n+1=>N :: jF (N+1) n
theorem we:∀ {n N v:Nat},v ∈ jF N n->N<=v/\v<N+n
 | 0,N,v,h=>by cases h
 | n+1,N,v,h=>by
  rcases hX.1 h with rfl|h
  ·omega
  ·have:=we h;omega
theorem ql {ρ:Nat->Option Value} (aw:∀ id u,ρ id=some u->id<n/\u.oneCell' = true) (hid:n<=id):ρ id=none:=by
 cases hr:ρ id with
 | none=>rfl
 | some u=>have:=(aw id u hr).1;omega
theorem R6 {o:Oper} {st:aW} {vs cP:List V} {r:V} {ai:List (Nat×Option aT)} (M:List Nat) (n:Nat) (hf:cA P f cP ai M.length r J bB) (ae:o.op = .call { callee:=.value (.func f),args:=xs,argTypes:=ts }) (aN:mX st.af o.dst=true) (U:h3 st.env xs.toList=some vs) (hw:ez vs (cz.ej (cp (M++jF st.next n) (st.next+n)) cP)) (hZ:kF (M++jF st.next n)=true) (hh:ox (cp (M++jF st.next n) (st.next+n)) M.length st.heap ai) (ag:bB=M.length+(jF st.next n).length) (jY:J.all (fun p=>Nat.blt p.1 bB)=true) (hn0:n0<=st.next) :
  GStep P n0 o st { env:=(st.put o.dst (cz (cp (M++jF st.next n) (st.next+n)) r)).env,heap:=hA (cp (M++jF st.next n) (st.next+n)) J++(hO M++st.heap),next:=st.next+n,af:=st.af }:=fun F base w0 ρ a w hH ax=>by
 refine tN ?_ (R5 (mS:=st.next+n) M (jF st.next n) hf ae aN U hw hZ hh ag jY (fun v ak=>(we ak).2) (by omega) hH ax (fun v ak=>ql hH.sup (we ak).1) (ql hH.sup (by omega)));rintro hx aF ⟨bl,aL,aS,bi,cq⟩;exact⟨bl,aL,aS,bi,fun id hid=>cq id (fun ak=>by have:=(we ak).1;omega)⟩
theorem abd {ρ:Nat->Option Value} {w:World} {cs:List V} (h:cT ρ S w (.fs f cs) u):∃ us,u = .func (.func f) #[] us/\us.size=cs.length /\ ∀ j,j<cs.length->cT ρ S w (bw cs j) (us.getD j undef):=by
 cases h with
 | pure h=>cases h
 | fs hn h=>exact⟨_,rfl,hn,h⟩
theorem abe {o:Oper} {t:Tmp} (ae:o.op = .call { callee:=.value (.tmp t),args:=xs,argTypes:=ts }) (hf:q8 P f=true) {a:Act} (ht:a.tmps.getD t undef = .func (.func f) #[] us) (w:World) :
  (execOp a.eval o).run P w = .ok (.enter f (xs.map a.eval++us)) w:=by
 unfold q8 at hf
 cases qx:P.funcs[f]? with
 | none=>rw[qx] at hf;cases hf
 | some fn=>
  rw[qx] at hf;simp only[fM,Bool.not_eq_true'] at hf;obtain ⟨J,aa⟩:=hf;obtain ⟨c,hc⟩:=Option.isSome_iff_exists.1 J;unfold execOp;rw[ae];have IK : fn.name ≠ "runtime.NumGoroutine" := fun e => by rw [e] at aa; simp at aa
  have he:a.eval (.tmp t) = .func (.func f) #[] us:=ht;simp[resolve,he,Deferred.ofValue,invoke,callFunc,Sem.run_bind,Sem.run_pure,program,Sem.run,qx,hc,IK]
theorem abf {o:Oper} {st:aW} {t:Tmp} {vs cP cs:List V} {r:V} {ai:List (Nat×Option aT)} (M:List Nat) (n:Nat) (hf:cA P f cP ai M.length r J bB) (ae:o.op = .call { callee:=.value (.tmp t),args:=xs,argTypes:=ts }) (ht:cW st.env t=some (.fs f cs)) (aN:mX st.af o.dst=true) (U:h3 st.env xs.toList=some vs) (hw:ez (vs++cs) (cz.ej (cp (M++jF st.next n) (st.next+n)) cP)) (hZ:kF (M++jF st.next n)=true) (hh:ox (cp (M++jF st.next n) (st.next+n)) M.length st.heap ai) (ag:bB=M.length+(jF st.next n).length) (jY:J.all (fun p=>Nat.blt p.1 bB)=true) (hn0:n0<=st.next) :
  GStep P n0 o st { env:=(st.put o.dst (cz (cp (M++jF st.next n) (st.next+n)) r)).env,heap:=hA (cp (M++jF st.next n) (st.next+n)) J++(hO M++st.heap),next:=st.next+n,af:=st.af }:=fun F base w0 ρ a w hH ax=>by
 obtain ⟨aI,a7⟩:=zW ax U;obtain ⟨us,aL,aS,bi⟩:=abd (ax.slot t _ ht);refine tN ?_ (R4 (mS:=st.next+n) (vs:=vs++cs) M (jF st.next n) hf aN hw hZ hh ag jY (fun v ak=>(we ak).2) (by omega) hH ax (fun v ak=>ql hH.sup (we ak).1) (ql hH.sup (by omega)) (abe ae hf.1 aL w) (by simp[aI,aS]) (fun j ad=>?_))
 ·rintro hx aF ⟨bl,aL,aS,bi,cq⟩;exact⟨bl,aL,aS,bi,fun id hid=>cq id (fun ak=>by have:=(we ak).1;omega)⟩
 ·have cZ:(xs.map a.eval).size=vs.length:=by rw[aI];simp
  by_cases bW:j<vs.length
  ·have h:=a7 j bW;have cC:(xs.toList.map a.eval).getD j undef=(xs.map a.eval++us).getD j undef:=by
    rw[bZ,gg,Array.getElem?_append_left (by omega),<- Array.toList_map];simp
   have eI:bw (vs++cs) j=bw vs j:=by unfold bw;rw[bZ,bZ,sh bW]
   rw[cC] at h;rwa [eI]
  ·rw[eE] at ad;have h:=bi (j - vs.length) (by omega);have cC:us.getD (j - vs.length) undef=(xs.map a.eval++us).getD j undef:=by
    rw[gg,gg,Array.getElem?_append_right (by omega),cZ]
   have eI:bw (vs++cs) j=bw cs (j - vs.length):=by unfold bw;rw[bZ,bZ,sg (by omega)]
   rw[cC] at h;rwa [eI]
theorem abg {G:List Nat} {o:Oper} {st:aW} {vs:List V} (ae:o.op = .makeFunc (.func f) #[] xs) (U:h3 st.env xs.toList=some vs):bu P G o st (.fs f vs):=
 iP fun F base w0 ρ a w hH ax=>by
  obtain ⟨aI,a7⟩:=zW ax U;refine ⟨.func (.func f) #[] (xs.map a.eval),.fs (by rw[aI];simp) (fun j ad=>?_),fun aF=>?_⟩
  ·have h:=a7 j ad;have cC:(xs.toList.map a.eval).getD j undef=(xs.map a.eval).getD j undef:=by
    rw[bZ,gg,<- Array.toList_map];simp
   rwa [cC] at h
  ·unfold execOp;rw[ae];simp[Instr.makeFunc,Sem.run_bind,Sem.run_pure]
theorem R7 {k:Nat} {o:Oper} {st:aW} {vs cP:List V} {r:V} {ai:List (Nat×Option aT)} (M:List Nat) (hf:cA P f cP ai M.length r J bB) (ae:o.op = .call { callee:=.value (.func f),args:=xs,argTypes:=ts }) (aN:mX st.af o.dst=true) (U:h3 st.env xs.toList=some vs) (hw:ez vs (cz.ej (cp (M++[k]) st.next) cP)) (hZ:kF (M++[k])=true) (hh:ox (cp (M++[k]) st.next) M.length st.heap ai) (ag:bB=M.length+1) (jY:J.all (fun p=>Nat.blt p.1 bB)=true) :
  kU P k o st { env:=(st.put o.dst (cz (cp (M++[k]) st.next) r)).env,heap:=hA (cp (M++[k]) st.next) J++(hO M++st.heap),next:=st.next,af:=st.af }:=fun F base w0 ρ a w hH ax fY au=>by
 refine tN ?_ (R5 (mS:=st.next) M [k] hf ae aN U hw hZ hh ag jY (fun v ak=>by rw[iX.1 ak];exact au) (e4 _) hH ax (fun v ak=>by rw[iX.1 ak];exact fY) (ql hH.sup (e4 _)));rintro hx aF ⟨bl,aL,aS,bi,cq⟩;exact⟨bl,aL,aS,bi,fun id hid=>cq id (fun ak=>hid (iX.1 ak))⟩
end
theorem od {a D:Nat} {l:List Nat}:cp (a :: l) D 0=a:=rfl
theorem oT {a b D:Nat} {l:List Nat}:cp (a :: b :: l) D 1=b:=rfl
theorem oU {a b c D:Nat} {l:List Nat}:cp (a :: b :: c :: l) D 2=c:=rfl
theorem oV {a b c D:Nat} {l:List Nat}:cp (a :: b :: c :: d :: l) D 3=d:=rfl
theorem oW {a b c d D:Nat} {l:List Nat}:cp (a :: b :: c :: d :: e :: l) D 4=e:=rfl
theorem oX {a b c d e f D:Nat} {l:List Nat}:cp (a :: b :: c :: d :: e :: f :: l) D 5=f:=rfl
theorem oY {a b c d e f g D:Nat} {l:List Nat}:cp (a :: b :: c :: d :: e :: f :: g :: l) D 6=g:=rfl
theorem oZ {a b c d e f g h D:Nat} {l:List Nat}:cp (a :: b :: c :: d :: e :: f :: g :: h :: l) D 7=h:=rfl
section
variable {P:Program} {o:Oper} {n0:Nat} {ops:List Oper} {rest:List Oper} {env:List (Nat×V)} {heap:List (Nat×Option aT)} {next af:Nat} {Q:aW->Prop}
theorem dL {vs cP:List V} {r gm:V} {ai:List (Nat×Option aT)} {L:List Nat} (M:List Nat) (hf:cA P f cP ai M.length r J bB) (ae:o.op = .call { callee:=.value (.func f),args:=xs,argTypes:=ts }:=by rfl) (av:b1 env ops o.guard=some true:=by rfl) (hd:o.dst=some d:=by rfl) (aN:Nat.blt d af=true:=by rfl) (U:h3 env xs.toList=some vs:=by rfl) (cw:M++jF next (bB - M.length)=L:=by(simp only[jF,eb,fg,Nat.reduceSub,Nat.reduceAdd,jv,kg,lV];rfl)) (hn:next+(bB - M.length)=next':=by(simp only[eb,fg,Nat.reduceSub,Nat.reduceAdd,kq];rfl)) (hw : ez vs (cz.ej (cp L next') cP) := by ((repeat' (first | exact ez.nil | refine ez.cons ?_ ?_ | exact dt.refl _ | exact dt.nil | refine dt.agg ?_ | refine dt.bN ?_)); first | done | fail "args")) (hZ : kF L = true := by rfl) (hh : ox (cp L next') M.length heap ai := by ((repeat' (first | exact True.intro | exact rfl | refine And.intro ?_ ?_)); first | done | fail "mem")) (ag : bB = M.length + (jF next (bB - M.length)).length := by rfl) (jY : J.all (fun p => Nat.blt p.1 bB) = true := by rfl) (hn0 : Nat.ble n0 next = true := by rfl) (hr:cz (cp L next') r=gm:=by first|(simp only[cz,cz.ej,od,oT,oU,oV,oW,oX,oY,oZ];rfl)|rfl) (hH:hA (cp L next') J++(hO M++heap)=cB:=by(simp only[hA,jm,cz,cz.ej,hO,Option.map_some,Option.map_none,jv,kg,od,oT,oU,oV,oW,oX,oY,oZ];rfl)) (h:a6 P n0 ops.toArray rest ⟨(d,gm) :: env,cB,next',af⟩ Q):a6 P n0 ops.toArray (o :: rest) ⟨env,heap,next,af⟩ Q:=by
 subst cw hn hr hH;have aw:=R6 (n0:=n0) (st:=⟨env,heap,next,af⟩) M (bB - M.length) hf ae o7 U hw hZ hh ag jY (bM hn0);rw[hd] at aw;exact kn av aw h
theorem oQ {t:Tmp} {cs:List V} {vs cP:List V} {r gm:V} {ai:List (Nat×Option aT)} {L:List Nat} (M:List Nat) (hf:cA P f cP ai M.length r J bB) (ae:o.op = .call { callee:=.value (.tmp t),args:=xs,argTypes:=ts }:=by rfl) (ht:cW env t=some (.fs f cs):=by rfl) (av:b1 env ops o.guard=some true:=by rfl) (hd:o.dst=some d:=by rfl) (aN:Nat.blt d af=true:=by rfl) (U:h3 env xs.toList=some vs:=by rfl) (cw:M++jF next (bB - M.length)=L:=by(simp only[jF,eb,fg,Nat.reduceSub,Nat.reduceAdd,jv,kg,lV];rfl)) (hn:next+(bB - M.length)=next':=by(simp only[eb,fg,Nat.reduceSub,Nat.reduceAdd,kq];rfl)) (hw : ez (vs ++ cs) (cz.ej (cp L next') cP) := by ((repeat' (first | exact ez.nil | refine ez.cons ?_ ?_ | exact dt.refl _ | exact dt.nil | refine dt.agg ?_ | refine dt.bN ?_)); first | done | fail "args")) (hZ : kF L = true := by rfl) (hh : ox (cp L next') M.length heap ai := by ((repeat' (first | exact True.intro | exact rfl | refine And.intro ?_ ?_)); first | done | fail "mem")) (ag : bB = M.length + (jF next (bB - M.length)).length := by rfl) (jY : J.all (fun p => Nat.blt p.1 bB) = true := by rfl) (hn0 : Nat.ble n0 next = true := by rfl) (hr:cz (cp L next') r=gm:=by first|(simp only[cz,cz.ej,od,oT,oU,oV,oW,oX,oY,oZ];rfl)|rfl) (hH:hA (cp L next') J++(hO M++heap)=cB:=by(simp only[hA,jm,cz,cz.ej,hO,Option.map_some,Option.map_none,jv,kg,od,oT,oU,oV,oW,oX,oY,oZ];rfl)) (h:a6 P n0 ops.toArray rest ⟨(d,gm) :: env,cB,next',af⟩ Q):a6 P n0 ops.toArray (o :: rest) ⟨env,heap,next,af⟩ Q:=by
 subst cw hn hr hH;have aw:=abf (n0:=n0) (st:=⟨env,heap,next,af⟩) M (bB - M.length) hf ae ht o7 U hw hZ hh ag jY (bM hn0);rw[hd] at aw;exact kn av aw h
theorem AR {vs:List V} (ae:o.op = .makeFunc (.func f) #[] xs:=by rfl) (U:h3 env xs.toList=some vs:=by rfl) (av:b1 env ops o.guard=some true:=by rfl) (hd:o.dst=some d:=by rfl) (aN:Nat.blt d af=true:=by rfl) (h:a6 P n0 ops.toArray rest ⟨(d,.fs f vs) :: env,heap,next,af⟩ Q):a6 P n0 ops.toArray (o :: rest) ⟨env,heap,next,af⟩ Q:=
 ir av hd aN (abg ae U) h
theorem fi {vs cP:List V} {r:V} {ai:List (Nat×Option aT)} {L:List Nat} (M:List Nat) (hf:cA P f cP ai M.length r J bB) (ae:o.op = .call { callee:=.value (.func f),args:=xs,argTypes:=ts }:=by rfl) (av:b1 env ops o.guard=some true:=by rfl) (hd:o.dst=none:=by rfl) (U:h3 env xs.toList=some vs:=by rfl) (cw:M++jF next (bB - M.length)=L:=by(simp only[jF,eb,fg,Nat.reduceSub,Nat.reduceAdd,jv,kg,lV];rfl)) (hn:next+(bB - M.length)=next':=by(simp only[eb,fg,Nat.reduceSub,Nat.reduceAdd,kq];rfl)) (hw : ez vs (cz.ej (cp L next') cP) := by ((repeat' (first | exact ez.nil | refine ez.cons ?_ ?_ | exact dt.refl _ | exact dt.nil | refine dt.agg ?_ | refine dt.bN ?_)); first | done | fail "args")) (hZ : kF L = true := by rfl) (hh : ox (cp L next') M.length heap ai := by ((repeat' (first | exact True.intro | exact rfl | refine And.intro ?_ ?_)); first | done | fail "mem")) (ag : bB = M.length + (jF next (bB - M.length)).length := by rfl) (jY : J.all (fun p => Nat.blt p.1 bB) = true := by rfl) (hn0 : Nat.ble n0 next = true := by rfl) (hH:hA (cp L next') J++(hO M++heap)=cB:=by(simp only[hA,jm,cz,cz.ej,hO,Option.map_some,Option.map_none,jv,kg,od,oT,oU,oV,oW,oX,oY,oZ];rfl)) (h:a6 P n0 ops.toArray rest ⟨env,cB,next',af⟩ Q):a6 P n0 ops.toArray (o :: rest) ⟨env,heap,next,af⟩ Q:=by
 subst cw hn hH;have aw:=R6 (n0:=n0) (st:=⟨env,heap,next,af⟩) M (bB - M.length) hf ae (by rw[hd];rfl) U hw hZ hh ag jY (bM hn0);rw[hd] at aw;exact kn av aw h
theorem AJ {t:TypeId} (ae:o.op = .call { callee:=.builtin .len,args:=#[x],argTypes:=#[t] }:=by rfl) (U:aJ env x=some (.lit (.string (c7 l))):=by rfl) (ht:P.underlying t=some .string:=by rfl) (av:b1 env ops o.guard=some true:=by rfl) (hd:o.dst=some d:=by rfl) (aN:Nat.blt d af=true:=by rfl) (h:a6 P n0 ops.toArray rest ⟨(d,I l.length) :: env,heap,next,af⟩ Q):a6 P n0 ops.toArray (o :: rest) ⟨env,heap,next,af⟩ Q:=by
 refine ir av hd aN ?_ h;have:=Iv (P:=P) (G:=[]) (st:=⟨env,heap,next,af⟩) ae U ht;rw[vZ] at this;exact this
end
section
variable {P:Program} {o:Oper} {af aA k bn:Nat} {ops:List Oper} {W:Nat->Nat->Bool} {rest:List Oper} {env:List (Nat×V)} {heap:List (Nat×Option aT)} {Q:aW->Prop}
theorem AM {t:TypeId} (ae:o.op = .call { callee:=.builtin .len,args:=#[x],argTypes:=#[t] }:=by rfl) (U:aJ (bt (looks ops o) env) x=some (.lit (.string (c7 l))):=by rfl) (ht:P.underlying t=some .string:=by rfl) (av:b1 (bt (looks ops o) env) ops o.guard=some true:=by rfl) (hd:o.dst=some d:=by rfl) (aN:Nat.blt d af=true:=by rfl) (ag:k+1=bn:=by(simp only[Nat.reduceAdd];rfl)) (hb:Nat.ble aA k=true:=by rfl) (h:bf P af aA ops W bn rest ((d,I l.length) :: env) heap Q):bf P af aA ops W k (o :: rest) env heap Q:=by
 refine jc av hd aN hb ag (fun N=>?_) h;have:=Iv (P:=P) (G:=[]) (st:=⟨bt (looks ops o) env,[],N,af⟩) ae U ht;rw[vZ] at this;exact this
theorem tj {vs cP:List V} {r gm:V} {l:List (List V)} (hf:cA P f cP [] 0 r [(0,some (.row e s l))] 1) (ae:o.op = .call { callee:=.value (.func f),args:=xs,argTypes:=ts }:=by rfl) (av:b1 (bt (looks ops o) env) ops o.guard=some true:=by rfl) (hd:o.dst=some d:=by rfl) (aN:Nat.blt d af=true:=by rfl) (U:h3 (bt (looks ops o) env) xs.toList=some vs:=by rfl) (hw : ∀ N, ez vs (cz.ej (cp [k] N) cP) := by (intro N; (repeat' (first | exact ez.nil | refine ez.cons ?_ ?_ | exact dt.refl _ | exact dt.nil | refine dt.agg ?_ | refine dt.bN ?_)); first | done | fail "args")) (hr:∀ N,cz (cp [k] N) r=gm:=by(intro N;simp only[cz,cz.ej,od];rfl)) (ag:k+1=bn:=by(simp only[Nat.reduceAdd];rfl)) (cG:Nat.ble aA k=true:=by rfl) (h:bf P af aA ops W bn rest ((d,gm) :: env) ((k,some (.row e s l)) :: heap) Q):bf P af aA ops W k (o :: rest) env heap Q:=
 rD (Hn:=[]) (H:=[(k,some (.row e s l))]) av hd ag cG (fun id B h=>by cases h) (fun id h=>.inl (rz h)) (fun N fW cB ax hH=>by
  have:=R7 (k:=k) (st:=⟨fW,cB,N,af⟩) [] hf ae o7 (Au ax U) (by rw[kg];exact hw N) rfl True.intro rfl rfl;rw[hd] at this;rw[kg,hr N] at this
  exact this) h
end
theorem abh {P:Program} {G:List Nat} {o:Oper} {st:aW} {T N:Nat} {cs:List V} {k:IntKind} (ae:o.op = .index T x y) (U:aJ st.env x=some (.agg cs)) (aj:aJ st.env y=some (.lit (.int k m))) (hm:m=(n:Int)) (aY:P.underlying T=some (.array N e)) (hn:n<N) (hc:n<cs.length) (br:lp P e=some false) (aw:dr P e=some 1):bu P G o st (bw cs n):=
 iP fun F base w0 ρ a w hH ax=>by
  subst hm;obtain ⟨us,aI,a7,cC⟩:=KW (df ax U);refine ⟨us.getD n undef,cC n hc,fun aF=>?_⟩;unfold execOp;rw[ae];simp only[];rw[aI,fO (df ax aj)];have hu:us[n]? = some (us.getD n undef):=by rw[gg,l2 (by omega)];rfl
  generalize us.getD n undef=u at hu;simp[Instr.index,asIntOf,run_underlying aY,Sem.run_bind,Sem.run_pure,hn,tM aw,part,DI br,hu]
section
variable {P:Program} {o:Oper} {n0:Nat} {ops:List Oper} {rest:List Oper} {env:List (Nat×V)} {heap:List (Nat×Option aT)} {next af:Nat} {Q:aW->Prop}
theorem zA {T N:Nat} {cs:List V} {k:IntKind} {v:V} (ae:o.op = .index T x y:=by rfl) (U:aJ env x=some (.agg cs):=by rfl) (aj:aJ env y=some (.lit (.int k m)):=by rfl) (hm:m=(n:Int):=by first|exact Ae|exact Af|exact Ag|exact Ah|rfl) (aY:P.underlying T=some (.array N e):=by rfl) (hn:Nat.blt n N=true:=by rfl) (ak:cs[n]? = some v:=by rfl) (br:lp P e=some false:=by rfl) (aw:dr P e=some 1:=by rfl) (av:b1 env ops o.guard=some true:=by rfl) (hd:o.dst=some d:=by rfl) (aN:Nat.blt d af=true:=by rfl) (h:a6 P n0 ops.toArray rest ⟨(d,v) :: env,heap,next,af⟩ Q):a6 P n0 ops.toArray (o :: rest) ⟨env,heap,next,af⟩ Q:=by
 refine ir av hd aN ?_ h;have:=abh (P:=P) (G:=[]) (st:=⟨env,heap,next,af⟩) ae U aj hm aY (bM hn) (ko.1 ak).1 br aw;have e:bw cs n=v:=by unfold bw;rw[bZ,ak];rfl
 rw[e] at this;exact this
end
section
variable {P:Program} {o:Oper} {n0:Nat} {ops:List Oper} {rest:List Oper} {env:List (Nat×V)} {heap:List (Nat×Option aT)} {next af:Nat} {Q:aW->Prop}
theorem CL [Inhabited α] {f:α->List V} {kp dP:Nat} {l r:List α} (m n:Nat) (br:a.getD 0=(m:Int)) (hb:b.getD l.length=(n:Int)) (hP:m<=n) (hn:n<=l.length) (hr:(l.take n).drop m=r) (ae:o.op = .slice t x gC hi none:=by rfl) (U:aJ env x=some (.own id):=by rfl) (hh:aM heap id=some (.row kp dP (l.map f)):=by rfl) (gb:k2 env gC=some a:=by rfl) (iI:k2 env hi=some b:=by rfl) (ht:P.underlying t=some (.slice e):=by rfl) (aw:dr P e=some s:=by rfl) (jz:∀ x,(f x).length=s:=by intro x;rfl) (av:b1 env ops o.guard=some true:=by rfl) (hd:o.dst=some d:=by rfl) (aN:Nat.blt d af=true:=by rfl) (h:a6 P n0 ops.toArray rest ⟨(d,.ro (r.map f)) :: env,(id,some (.dY (l.map f))) :: heap,next,af⟩ Q):a6 P n0 ops.toArray (o :: rest) ⟨env,heap,next,af⟩ Q:=by
 refine aaW (id:=id) hh ?_;refine yN (f:=f) (v:=.own id) m n br hb hP hn hr ae U ?_ gb iI ht aw jz av hd aN h;simp[uo,aM]
end
def R8:V->Option Nat
 | .own id=>some id
 | .agg cs=>K7 cs
 | _=>none
where K7:List V->Option Nat
 | []=>none
 | c :: cs=>match R8 c with
  | some id=>some id
  | none=>K7 cs
section
variable {P:Program} {o:Oper} {n0:Nat} {ops:List Oper} {rest:List Oper} {env:List (Nat×V)} {heap:List (Nat×Option aT)} {next af:Nat} {Q:aW->Prop}
theorem Uz {vs cP:List V} {r:V} (hf:Fn P f cP r) (ae:o.op = .call { callee:=.value (.func f),args:=xs,argTypes:=ts }:=by rfl) (av:b1 env ops o.guard=some true:=by rfl) (hd:o.dst=some d:=by rfl) (aN:Nat.blt d af=true:=by rfl) (U:h3 env xs.toList=some vs:=by rfl) (aw:ih.o6 heap vs=some cP:=by rfl) (hr:rr r=true:=by rfl) (h:a6 P n0 ops.toArray rest ⟨(d,r) :: env,heap,next,af⟩ Q):a6 P n0 ops.toArray (o :: rest) ⟨env,heap,next,af⟩ Q:=by
 have:=Pc (P:=P) (n0:=n0) (st:=⟨env,heap,next,af⟩) ae o7 U aw hf hr;rw[hd] at this;exact kn av this h
end
section
variable {P:Program} {o:Oper} {af aA k bn:Nat} {ops:List Oper} {W:Nat->Nat->Bool} {rest:List Oper} {env:List (Nat×V)} {heap:List (Nat×Option aT)} {Q:aW->Prop}
theorem UA {vs cP:List V} {r:V} (hf:Fn P f cP r) (ae:o.op = .call { callee:=.value (.func f),args:=xs,argTypes:=ts }:=by rfl) (av:b1 (bt (looks ops o) env) ops o.guard=some true:=by rfl) (hd:o.dst=some d:=by rfl) (aN:Nat.blt d af=true:=by rfl) (U:h3 (bt (looks ops o) env) xs.toList=some vs:=by rfl) (hid:R8.K7 vs=some id:=by rfl) (an:aM heap id=some B:=by rfl) (aw:ih.o6 [(id,some B)] vs=some cP:=by rfl) (hr:rr r=true:=by rfl) (ag:k+1=bn:=by(simp only[Nat.reduceAdd];rfl)) (hb:Nat.ble aA k=true:=by rfl) (ak:jQ ops W aA (k - aA) id=true:=by kernel_rfl) (h:bf P af aA ops W bn rest ((d,r) :: env) heap Q):bf P af aA ops W k (o :: rest) env heap Q:=
 Xs hf ae av hd aN U an aw hr ag hb ak h
end
section
variable {P:Program} {st:aW}
theorem Xx {n0:Nat} {r gm v:V} {e:Exit} (he:e = .ret\/e = .normal:=by first|exact .inl rfl|exact .inr rfl) (ak:r1 P st fn.results.toList=some v:=by rfl) (hv:sL (RS n0 ⟨[(0,v)],st.heap,0,0⟩ ⟨[(0,r)],J,bB,0⟩) L:=by repeat'(first|exact sL.nil|apply sL.cons)) (cw:r2 n0 bB L=true:=by rfl) (aw:e6 (gf L) st.heap v=some gm:=by rfl) (hr:dt gm r) (hh:wa L st.heap J):RT P fn n0 r J bB e st:=
 ⟨he,v,gm,L,ak,cw,aw,hr,hh⟩
end
end
section
open Go.RowKit Go.ChangeMaps
def pJ:Option IntKind->TypeDesc
 | some q=>.int q
 | none=>.string
def mK:Value->Value->Bool
 | .int _ a,.int _ b=>a == b
 | .string a,.string b=>a == b
 | _,_=>false
def fU (k:Value):List (Value×Value)->Option Value
 | []=>none
 | p :: r=>bif mK k p.1 then some p.2 else fU k r
def mL (k v:Value):List (Value×Value)->List (Value×Value)
 | []=>[(k,v)]
 | p :: r=>bif mK k p.1 then(k,v) :: r else p :: mL k v r
theorem sf (h:iA q v=true):(∃ k a,q=some k/\v = .int k a)\/(∃ s,q=none/\v = .string s):=by
 cases q with
 | none=>cases v <;> simp[iA] at h;exact .inr ⟨_,rfl,rfl⟩
 | some q=>cases v <;> simp[iA] at h;subst h;exact .inl ⟨_,_,rfl,rfl⟩
theorem abi {k p:Value} (ag:iA q k=true) (ar:iA q p=true):Instr.sameNow (pJ q) k p=some (mK k p):=by
 rcases sf ag with⟨bB,a,rfl,rfl⟩ | ⟨s,rfl,rfl⟩
 ·rcases sf ar with⟨de,b,e,rfl⟩ | ⟨s,e,_⟩
  ·injection e with e;subst e;simp[Instr.sameNow,pJ,mK]
  ·cases e
 ·rcases sf ar with⟨de,b,e,rfl⟩ | ⟨t,_,rfl⟩
  ·cases e
  ·simp[Instr.sameNow,pJ,mK]
theorem abj {k p:Value} (ag:iA q k=true) (ar:iA q p=true) (h:mK k p=true):p=k:=by
 rcases sf ag with⟨bB,a,rfl,rfl⟩ | ⟨s,rfl,rfl⟩
 ·rcases sf ar with⟨de,b,e,rfl⟩ | ⟨s,e,_⟩
  ·injection e with e;subst e;simp only[mK,beq_iff_eq] at h;rw[h]
  ·cases e
 ·rcases sf ar with⟨de,b,e,rfl⟩ | ⟨t,_,rfl⟩
  ·cases e
  ·simp only[mK,MapKept.bytes_beq] at h;rw[h]
theorem abk {k:Value} (ag:iA q k=true):Instr.sameBits 10000 k k=true:=by
 rcases sf ag with⟨bB,a,rfl,rfl⟩ | ⟨s,rfl,rfl⟩
 ·simp[Instr.sameBits]
 ·simp[Instr.sameBits,(MapKept.bytes_beq s s).2 rfl]
theorem K8 {q:Option IntKind} {k v:Value} (ag:iA q k=true):∀ (b3:List MapEntry) (i:Nat),(∀ e,e ∈ b3->iA q e.key=true) ->
  (fU k (b3.map lj)=none/\Instr.findNow (pJ q) k b3 i=some none/\mL k v (b3.map lj)=b3.map lj++[(k,v)]) \/
  ∃ n x e,b3[n]? = some e/\e.key=k/\fU k (b3.map lj)=some x/\Instr.findNow (pJ q) k b3 i=some (some (i+n,x))/\(b3.modify n fun e=>{ e with key:=k,val:=v }).map lj=mL k v (b3.map lj)
 | [],i,_=>.inl ⟨rfl,rfl,rfl⟩
 | e :: b3,i,h=>by
  have he:=abi ag (h e fV)
  cases hb:mK k e.key with
  | true=>
   refine .inr ⟨0,e.val,e,rfl,abj ag (h e fV) hb,?_,?_,?_⟩
   ·simp only[iM,fU,hb,cond_true]
   ·simp only[Instr.findNow,he,hb];rfl
   ·simp only[iM,mL,hb,cond_true];rfl
  | false=>
   rcases K8 (v:=v) ag b3 (i+1) (fun e c6=>h e (ha _ c6)) with⟨J,aa,az⟩ | ⟨n,x,kp,J,aa,az,bk,dG⟩
   ·refine .inl ⟨?_,?_,?_⟩
    ·simp only[iM,fU,hb,cond_false];exact J
    ·simp only[Instr.findNow,he,hb];exact aa
    ·simp only[iM,mL,hb,cond_false,az,jv]
   ·refine .inr ⟨n+1,x,kp,by simpa using J,aa,?_,?_,?_⟩
    ·simp only[iM,fU,hb,cond_false];exact az
    ·simp only[Instr.findNow,he,hb];rw[bk];congr 3;omega
    ·simp only[iM,mL,hb,cond_false,List.modify_succ_cons];rw[dG]
theorem R9 {q:Option IntKind} {k v:Value} (ag:iA q k=true) (ak:v.oneCell' = true):∀ (es:List (Value×Value)),(∀ p,p ∈ es->iA q p.1=true/\p.2.oneCell' = true) -> ∀ p,p ∈ mL k v es->iA q p.1=true/\p.2.oneCell' = true
 | [],_,p,ar=>by
  simp only[mL,iX] at ar;subst ar;exact⟨ag,ak⟩
 | e :: es,h,p,ar=>by
  simp only[mL] at ar
  cases hb:mK k e.1 with
  | true=>
   rw[hb] at ar;rcases hX.1 ar with rfl|ar
   ·exact⟨ag,ak⟩
   ·exact h p (ha _ ar)
  | false=>
   rw[hb] at ar;rcases hX.1 ar with rfl|ar
   ·exact h _ fV
   ·exact R9 ag ak es (fun p ar=>h p (ha _ ar)) p ar
theorem run_checkKey {P:Program} {k:Value} {b:Bool} (mr:P.underlying kt=some (pJ q)) (ag:iA q k=true) (w:World):(Instr.checkKey b 10000 kt k).run P w = .ok () w:=by
 unfold Instr.checkKey;simp only[Sem.run_bind,run_underlying mr];rcases sf ag with⟨bB,a,rfl,rfl⟩ | ⟨s,rfl,rfl⟩ <;> rfl
section
variable {P:Program} {o:Oper} {n0:Nat} {st:aW} {G:List Nat}
theorem No {b:Nat} {k:Value} {w:World} (aY:P.underlying T=some (.map kt et)) (mr:P.underlying kt=some (pJ q)) (h:w.heap[b]? = some (.map b3 clock)) (ag:iA q k=true) (K9:∀ e,e ∈ b3.toList->iA q e.key=true) (aU:(zeroValue et).run P w = .ok z w) :
  (Instr.lookup T (.map (some b)) k ok).run P w = .ok (if ok then .tuple #[(fU k (b3.toList.map lj)).getD z,.bool (fU k (b3.toList.map lj)).isSome] else(fU k (b3.toList.map lj)).getD z) w:=by
 rcases K8 (v:=k) ag b3.toList 0 K9 with⟨J,aa,_⟩ | ⟨n,x,e,_,_,J,aa,_⟩
 ·cases ok <;> simp[Instr.lookup,Instr.findKey,run_underlying aY,run_underlying mr,MapKept.run_getObj_map h,run_checkKey mr ag,J,aa,aU,Sem.run_bind,Sem.run_pure,Result.andThen]
 ·cases ok <;> simp[Instr.lookup,Instr.findKey,run_underlying aY,run_underlying mr,MapKept.run_getObj_map h,run_checkKey mr ag,J,aa,aU,Sem.run_bind,Sem.run_pure,Result.andThen]
theorem Sa {k v:Value}:∀ {l:List MapEntry} (n:Nat),(l.modify n fun e=>{ e with key:=k,val:=v }).map (·.born)=l.map (·.born)
 | [],n=>by cases n <;> rfl
 | e :: l,0=>rfl
 | e :: l,n+1=>by simp only[List.modify_succ_cons,iM,Sa n]
theorem abl {b:Nat} {k:Value} {w:World} (aY:P.underlying T=some (.map kt et)) (mr:P.underlying kt=some (pJ q)) (h:w.heap[b]? = some (.map b3 clock)) (ag:iA q k=true) (K9:∀ e,e ∈ b3.toList->iA q e.key=true) :
  ∃ wg x4,(Instr.mapUpdate T (.map (some b)) k v).run P w = .ok () (setBlock w b (.map wg x4))/\wg.toList.map lj=mL k v (b3.toList.map lj)/\(w9 b3 clock->w9 wg x4):=by
 rcases K8 (v:=v) ag b3.toList 0 K9 with⟨J,aa,az⟩ | ⟨n,x,e,g1,g2,J,aa,az⟩
 ·refine ⟨b3.push { key:=k,val:=v,born:=clock },clock+1,?_,?_⟩
  ·simp[Instr.mapUpdate,Instr.findKey,run_underlying aY,run_underlying mr,MapKept.run_getObj_map h,run_checkKey mr ag,J,aa,Sem.run_bind,Sem.run_pure,Result.andThen,MapKept.run_setObj_map _ h,setBlock]
  ·refine ⟨by rw[az];simp,fun hb=>⟨?_,fun e he=>?_⟩⟩
   ·rw[Array.toList_push,ix,List.nodup_append];refine ⟨hb.1,by simp,fun a br b cG=>?_⟩;obtain ⟨e,he,rfl⟩:=List.mem_map.1 br;have:=hb.2 e he;simp at cG;omega
   ·rw[Array.toList_push] at he;rcases gr.1 he with he|he
    ·have:=hb.2 e he;omega
    ·rw[iX.1 he];exact Nat.lt_succ_self _
 ·have g3:b3[n]? = some e:=by rw[<- tr];exact g1
  refine ⟨b3.modify n fun e=>{ e with key:=k,val:=v },clock,?_,?_⟩
  ·simp[Instr.mapUpdate,Instr.findKey,Instr.keyThatStays,run_underlying aY,run_underlying mr,MapKept.run_getObj_map h,run_checkKey mr ag,J,aa,g3,g2,abk ag,Sem.run_bind,Sem.run_pure,Result.andThen,MapKept.run_setObj_map _ h,setBlock]
  ·refine ⟨by rw[Array.toList_modify];exact az,fun hb=>?_⟩;have Sb:(b3.toList.modify n fun e=>{ e with key:=k,val:=v }).map (·.born)=b3.toList.map (·.born):=Sa n;refine ⟨by rw[Array.toList_modify,Sb];exact hb.1,fun e he=>?_⟩;rw[Array.toList_modify] at he;have hm:e.born ∈ (b3.toList.modify n fun e=>{ e with key:=k,val:=v }).map (·.born):=List.mem_map.2 ⟨e,he,rfl⟩;rw[Sb] at hm;obtain ⟨kp,abm,KX⟩:=List.mem_map.1 hm;rw[<- KX];exact hb.2 kp abm
theorem abn {k T kt et:Nat} (q:Option IntKind) (ae:o.op = .makeMap T none) (hd:o.dst=some d) (aN:Nat.blt d st.af=true):kU P k o st (st.newAt k d (.own k) (.map q [])):=fun F base w0 ρ a w hH ax fY ag=>by
 refine l5 (u:=.map (some w.heap.size)) (aF:=w.alloc (.map #[] 0)) ?_ ?_
 ·unfold execOp;rw[ae];simp[Instr.makeMap,newObj,go_sem];rfl
 ·rw[hd];refine u6 hH ax fY ag (tv _ _) (fun _ b hb=>by simp only[dU,ck] at hb;omega) (bM aN) rfl (fun S hS _ dc=>?_) (fun S=>.own (gO _ _ _));exact⟨w.heap.size,#[],0,gO _ _ _,hH.fl _ (e4 _),heap_alloc_new _ _,rfl,⟨fun p ar=>(by cases ar),⟨List.nodup_nil,fun e he=>(by cases he)⟩⟩⟩
theorem abo {m:Operand} (ae:o.op = .insert T m x y\/o.op = .mapUpdate T m x y) (a:Act) (w aF:World) (h:(Instr.mapUpdate T (a.eval m) (a.eval x) (a.eval y)).run P w = .ok () aF):(execOp a.eval o).run P w = .ok .skip aF:=by
 rcases ae with ae|ae <;> (unfold execOp;rw[ae];simp only[Sem.run_bind,h];rfl)
theorem abp {id:TypeId} {m:Operand} {k:Value} (ae:o.op = .insert T m x y\/o.op = .mapUpdate T m x y) (hd:o.dst=none) (hm:aJ st.env m=some (.own id)) (hh:aM st.heap id=some (.map q es)) (U:aJ st.env x=some (.lit k)) (aj:aJ st.env y=some (.lit v)) (aY:P.underlying T=some (.map kt et)) (mr:P.underlying kt=some (pJ q)) (ag:iA q k=true) :
  GStep P n0 o st { st with heap:=(id,some (.map q (mL k v es))) :: st.heap }:=fun F base w0 ρ a w hH ax=>by
 have J:=j8 (df ax hm);obtain ⟨b,b3,clock,aI,a7,cC,eI,fZ,CX⟩:=hH.cJ _ _ hh;rw[J] at aI;injection aI with aI;have IU:=Wf (df ax aj)
 obtain ⟨wg,x4,jB,k4,abq⟩:=abl (P:=P) (w:=w) (v:=v) aY mr cC ag (fun e he=>by
  have:=(fZ (lj e) CW).1
  exact this)
 have l3:¬ bs F ρ st.heap b:=fun aw=>aw.2 id _ _ hh rfl (by rw[J,aI]) rfl
 refine DL (aF:=setBlock w b (.map wg x4)) ?_ ?_
 ·refine abo ae a w _ ?_;rw[aI,fO (df ax U),fO (df ax aj)];exact jB
 ·rw[hd];have av:w.grownBy (setBlock w b (.map wg x4)) (some b):=⟨rfl,rfl,rfl,by simp[setBlock],fun i _ hi=>heap_setBlock_other cC _ (fun e=>hi (by rw[e]))⟩;obtain ⟨aL,aS,bi⟩:=hH.step (bl:=ρ) (cB:=(id,some (.map q (mL k v es))) :: st.heap) (next':=st.next) id (some b) av
   (fun k ag=>by injection ag with ag;subst ag;exact⟨a7,l3⟩) (fun _ _ h=>h) (fun id u h=>hH.sup id u h)
   (fun i B ct an=>by
    rw[cl,ah (Ne.symm ct)] at an;refine ⟨an,?_⟩;obtain ⟨u,hu⟩:=hH.nd an
    exact⟨u,hu,fun ae fD hb e=>by injection e with e;subst e;exact ct (hH.inj i id B _ u _ b an hh ae rfl hu (by rw[J,aI]) hb rfl)⟩)
   (fun B u fD an ae hu hb=>by
    rw[J,aI] at hu;injection hu with hu;subst hu;simp only[dU,ck] at hb;subst hb;refine .inr ⟨l3,fun i bd dD ct b0 dK c2 cG=>?_⟩;rw[cl,ah (Ne.symm ct)] at b0
    exact ct (hH.inj i id bd _ dD _ b b0 hh dK rfl c2 (by rw[J,aI]) cG rfl))
   (fun B an hS dc=>by
    rw[cl,al rfl] at an;injection an with an;subst an
    exact⟨b,wg,x4,by rw[J,aI],a7,heap_setBlock_same cC _,by rw[<- eI];exact k4,R9 ag IU es fZ,abq CX⟩)
  exact⟨ρ,aL,ax.mono aS bi (fun _ _ h=>h),fun _ _ h=>h,fun _ _=>rfl⟩
theorem Hy {q:Option IntKind} {k x:Value}:∀ {es:List (Value×Value)},(∀ p,p ∈ es->iA q p.1=true/\p.2.oneCell' = true)->fU k es=some x->x.oneCell' = true
 | [],_,h=>by cases h
 | e :: es,dG,h=>by
  simp only[fU] at h
  cases hb:mK k e.1 with
  | true=>rw[hb] at h;injection h with h;subst h;exact(dG _ fV).2
  | false=>rw[hb] at h;exact Hy (fun p ar=>dG p (ha _ ar)) h
def wM (P:Program) (T:TypeId):Option Value:=
 match P.info? T with
 | some i=>match i.zero with
  | some z=>bif z.oneCell' then some z else none
  | none=>none
 | none=>none
theorem Nn (h:wM P T=some z):z.oneCell' = true /\ ∀ w,(zeroValue T).run P w = .ok z w:=by
 unfold wM at h
 cases hi:P.info? T with
 | none=>rw[hi] at h;cases h
 | some i=>
  rw[hi] at h;simp only at h
  cases aU:i.zero with
  | none=>rw[aU] at h;cases h
  | some y=>
   rw[aU] at h;simp only at h
   cases hb:y.oneCell' with
   | false=>rw[hb] at h;cases h
   | true=>
    rw[hb] at h;injection h with h;subst h;exact⟨hb,fun w=>by simp[zeroValue,typeInfo,hi,aU,Sem.run_bind,Sem.run_pure,program,Sem.run]⟩
theorem abr {id:TypeId} {m:Operand} {k:Value} (ae:o.op = .lookup T m x ok) (hm:aJ st.env m=some (.own id)) (hh:aM st.heap id=some (.map q es)) (fS:qB id G=true) (U:aJ st.env x=some (.lit k)) (aY:P.underlying T=some (.map kt et)) (mr:P.underlying kt=some (pJ q)) (ag:iA q k=true) (aU:wM P et=some z) :
  bu P G o st (if ok then .bN [.lit ((fU k es).getD z),ab (fU k es).isSome] else .lit ((fU k es).getD z)):=fun F base w0 ρ a w hH ax cw=>by
 have J:=j8 (df ax hm);obtain ⟨b,b3,clock,aI,a7,cC,eI,fZ,_⟩:=hH.cJ _ _ hh;obtain ⟨w8,z3⟩:=Nn aU;have hr:∀ aF,Ext (u5 ρ G) w aF -> (Instr.lookup T (a.eval m) (a.eval x) ok).run P aF = .ok (if ok then .tuple #[(fU k es).getD z,.bool (fU k es).isSome] else(fU k es).getD z) aF:=fun aF jo=>by
  have y1:aF.heap[b]? = some (.map b3 clock):=by
   rw[jo.block b (gB.1 cC).1 (y6 hH cw fS hh rfl aI rfl)];exact cC
  rw[J] at aI;injection aI with aI;rw[aI,fO (df ax U)];have:=No (P:=P) (ok:=ok) aY mr y1 ag (fun e he=>(fZ (lj e) CW).1) (z3 aF);rw[eI] at this;exact this
 have y2:((fU k es).getD z).oneCell' = true:=by
  cases hc:fU k es with
  | none=>exact w8
  | some x=>exact Hy fZ hc
 refine ⟨if ok then .tuple #[(fU k es).getD z,.bool (fU k es).isSome] else(fU k es).getD z,?_,fun aF jo=>?_⟩
 ·cases ok
  ·exact .pure (.lit _ y2)
  ·refine .bN rfl (fun j ad=>?_)
   match j,ad with
   | 0,_=>exact .pure (.lit _ y2)
   | 1,_=>exact .pure (.lit _ rfl)
 ·unfold execOp;rw[ae];simp only[Sem.run_bind,hr aF jo];rfl
def Sc:TypeDesc->Option (Option IntKind)
 | .int q=>some (some q)
 | .string=>some none
 | _=>none
def tb (P:Program) (T:TypeId):Option (Option IntKind×TypeId):=
 match P.underlying T with
 | some (.map kt et)=>match P.underlying kt with
  | some d=>match Sc d with
   | some q=>some (q,et)
   | none=>none
  | none=>none
 | _=>none
theorem Cm (h:tb P T=some (q,et)):∃ kt,P.underlying T=some (.map kt et)/\P.underlying kt=some (pJ q):=by
 unfold tb at h;split at h
 ·rename_i kt acX aY;split at h
  ·rename_i d hd;split at h
   ·rename_i sy hq;injection h with h;injection h with J aa;subst J aa;refine ⟨kt,aY,?_⟩;rw[hd]
    cases d <;> simp[Sc] at hq <;> subst hq <;> rfl
   ·cases h
  ·cases h
 ·cases h
section
variable {ops:List Oper} {rest:List Oper} {env:List (Nat×V)} {heap:List (Nat×Option aT)} {next af:Nat} {Q:aW->Prop}
theorem A5 {T et:Nat} (ae:o.op = .makeMap T none:=by rfl) (hq:tb P T=some (q,et):=by rfl) (av:b1 env ops o.guard=some true:=by rfl) (hd:o.dst=some d:=by rfl) (aN:Nat.blt d af=true:=by rfl) (hn0:Nat.ble n0 next=true:=by rfl) (h:a6 P n0 ops.toArray rest ⟨(d,.own next) :: env,(next,some (.map q [])) :: heap,next+1,af⟩ Q):a6 P n0 ops.toArray (o :: rest) ⟨env,heap,next,af⟩ Q:=
 kn av (qj (bM hn0) (abn (kt:=0) (et:=0) (T:=T) (st:={ env:=env,heap:=heap,next:=next+1,af:=af }) q ae hd aN)) h
theorem xb {T et:Nat} {m:Operand} {k:Value} (ae:o.op = .insert T m x y\/o.op = .mapUpdate T m x y:=by first|exact .inl rfl|exact .inr rfl) (hd:o.dst=none:=by rfl) (hm:aJ env m=some (.own id):=by rfl) (hh:aM heap id=some (.map q es):=by rfl) (U:aJ env x=some (.lit k):=by rfl) (aj:aJ env y=some (.lit v):=by rfl) (hq:tb P T=some (q,et):=by rfl) (ag:iA q k=true:=by rfl) (av:b1 env ops o.guard=some true:=by rfl) (h:a6 P n0 ops.toArray rest ⟨env,(id,some (.map q (mL k v es))) :: heap,next,af⟩ Q):a6 P n0 ops.toArray (o :: rest) ⟨env,heap,next,af⟩ Q:=by
 obtain ⟨kt,J,aa⟩:=Cm hq;exact kn av (abp (st:=⟨env,heap,next,af⟩) ae hd hm hh U aj J aa ag) h
theorem Uy {T et:Nat} {m:Operand} {k r:Value} {b:Bool} (hr:(fU k es).getD z=r) (hb:(fU k es).isSome=b) (ae:o.op = .lookup T m x true:=by rfl) (hm:aJ env m=some (.own id):=by rfl) (hh:aM heap id=some (.map q es):=by rfl) (U:aJ env x=some (.lit k):=by rfl) (hq:tb P T=some (q,et):=by rfl) (ag:iA q k=true:=by rfl) (aU:wM P et=some z:=by rfl) (av:b1 env ops o.guard=some true:=by rfl) (hd:o.dst=some d:=by rfl) (aN:Nat.blt d af=true:=by rfl) (h:a6 P n0 ops.toArray rest ⟨(d,.bN [.lit r,ab b]) :: env,heap,next,af⟩ Q):a6 P n0 ops.toArray (o :: rest) ⟨env,heap,next,af⟩ Q:=by
 obtain ⟨kt,J,aa⟩:=Cm hq;subst hr hb;exact ir av hd aN (by simpa using abr (st:=⟨env,heap,next,af⟩) (G:=[]) ae hm hh rfl U J aa ag aU) h
theorem Sd {m:List UInt8} (h:l.length+m.length<=9223372036854775807):(c7 l).size+(c7 m).size<=9223372036854775807:=by rw[vZ,vZ];exact h
theorem zB {T cX:Nat} {a b:ByteArray} {m:List UInt8} (hr:l++m=r) (hn:l.length+m.length<=9223372036854775807) (ae:o.op = .binOp .add T x y cX:=by rfl) (U:aJ env x=some (.lit (.string a)):=by rfl) (aj:aJ env y=some (.lit (.string b)):=by rfl) (br:a=c7 l:=by rfl) (hb:b=c7 m:=by rfl) (av:b1 env ops o.guard=some true:=by rfl) (hd:o.dst=some d:=by rfl) (aN:Nat.blt d af=true:=by rfl) (h:a6 P n0 ops.toArray rest ⟨(d,.lit (.string (c7 r))) :: env,heap,next,af⟩ Q):a6 P n0 ops.toArray (o :: rest) ⟨env,heap,next,af⟩ Q:=by
 subst hr br hb;refine ir av hd aN ?_ h;rw[<- Rw];exact DH ae U aj (Sd hn)
end
section
variable {ops:List Oper} {rest:List Oper} {env:List (Nat×V)} {heap:List (Nat×Option aT)} {af aA k bn:Nat} {W:Nat->Nat->Bool} {Q:aW->Prop}
theorem zC {T cX:Nat} {a b:ByteArray} {m:List UInt8} (hr:l++m=r) (hn:l.length+m.length<=9223372036854775807) (ae:o.op = .binOp .add T x y cX:=by rfl) (U:aJ (bt (looks ops o) env) x=some (.lit (.string a)):=by rfl) (aj:aJ (bt (looks ops o) env) y=some (.lit (.string b)):=by rfl) (br:a=c7 l:=by rfl) (hb:b=c7 m:=by rfl) (av:b1 (bt (looks ops o) env) ops o.guard=some true:=by rfl) (hd:o.dst=some d:=by rfl) (aN:Nat.blt d af=true:=by rfl) (ag:k+1=bn:=by(simp only[Nat.reduceAdd];rfl)) (cG:Nat.ble aA k=true:=by rfl) (h:bf P af aA ops W bn rest ((d,.lit (.string (c7 r))) :: env) heap Q):bf P af aA ops W k (o :: rest) env heap Q:=by
 subst hr br hb;refine jc av hd aN cG ag (fun N=>?_) h;rw[<- Rw];exact DH ae U aj (Sd hn)
end
end
end
section
open Go.RowKit
theorem Se {P:Program} {o:Oper} {st:aW} {G:List Nat} {T:Nat} {a:ByteArray} {k:IntKind} (ae:o.op = .index T x y) (U:aJ st.env x=some (.lit (.string a))) (br:a=c7 l) (aj:aJ st.env y=some (.lit (.int k m))) (hm:m=(n:Int)) (hn:n<l.length) (aY:P.underlying T=some .string):bu P G o st (.lit (.int .u8 ((l.getD n default).toNat:Int))):=by
 subst br;have:=CA (P:=P) (G:=G) ae U aj hm (by rw[vZ];exact hn) aY;rw[KS] at this;exact this
def acY (P:Program) (e:TypeId):Bool:=match P.info? e with|some i=>(match i.zero with|some (.int .u8 0)=>Nat.beq i.size 1 && Nat.beq i.bytes 1|_=>false)|none=>false
section
variable {P:Program} {o:Oper} {n0:Nat} {ops:List Oper} {rest:List Oper} {env:List (Nat×V)} {heap:List (Nat×Option aT)} {next af:Nat} {Q:aW->Prop}
theorem A3 {T:Nat} {a:ByteArray} {k:IntKind} (ae:o.op = .index T x y:=by rfl) (U:aJ env x=some (.lit (.string a)):=by rfl) (br:a=c7 l:=by rfl) (aj:aJ env y=some (.lit (.int k m)):=by rfl) (hm:m=(n:Int):=by first|exact Ae|exact Af|exact Ag|exact Ah|rfl|exact I7 (by omega)|exact I8 (by omega)|exact(Int.toNat_of_nonneg (by omega)).symm) (hn:n<l.length:=by first|omega|(simp only[eb,fg];omega)) (aY:P.underlying T=some .string:=by rfl) (av:b1 env ops o.guard=some true:=by rfl) (hd:o.dst=some d:=by rfl) (aN:Nat.blt d af=true:=by rfl) (h:a6 P n0 ops.toArray rest ⟨(d,.lit (.int .u8 ((l.getD n default).toNat:Int))) :: env,heap,next,af⟩ Q):a6 P n0 ops.toArray (o :: rest) ⟨env,heap,next,af⟩ Q:=
 ir av hd aN (Se ae U br aj hm hn aY) h
end
section
variable {P:Program} {o:Oper} {ops:List Oper} {rest:List Oper} {env:List (Nat×V)} {heap:List (Nat×Option aT)} {af aA k bn:Nat} {W:Nat->Nat->Bool} {Q:aW->Prop}
theorem A4 {T:Nat} {a:ByteArray} (ae:o.op = .index T x y:=by rfl) (U:aJ (bt (looks ops o) env) x=some (.lit (.string a)):=by rfl) (br:a=c7 l:=by rfl) (aj:aJ (bt (looks ops o) env) y=some (.lit (.int cF m)):=by rfl) (hm:m=(n:Int):=by first|exact Ae|exact Af|exact Ag|exact Ah|rfl|exact I7 (by omega)|exact I8 (by omega)|exact(Int.toNat_of_nonneg (by omega)).symm) (hn:n<l.length:=by first|omega|(simp only[eb,fg];omega)) (aY:P.underlying T=some .string:=by rfl) (av:b1 (bt (looks ops o) env) ops o.guard=some true:=by rfl) (hd:o.dst=some d:=by rfl) (aN:Nat.blt d af=true:=by rfl) (ag:k+1=bn:=by(simp only[Nat.reduceAdd];rfl)) (cG:Nat.ble aA k=true:=by rfl) (h:bf P af aA ops W bn rest ((d,.lit (.int .u8 ((l.getD n default).toNat:Int))) :: env) heap Q):bf P af aA ops W k (o :: rest) env heap Q:=
 jc av hd aN cG ag (fun N=>Se ae U br aj hm hn aY) h
theorem A2 {e:TypeId} {a:ByteArray} (ae:o.op = .convert T bT x:=by rfl) (U:aJ (bt (looks ops o) env) x=some (.lit (.string a)):=by rfl) (br:a=c7 l:=by rfl) (aY:P.underlying T=some .string:=by rfl) (ja:P.underlying bT=some (.slice e):=by rfl) (he:P.underlying e=some (.int .u8):=by rfl) (h63:l.length<=140737488355328) (av:b1 (bt (looks ops o) env) ops o.guard=some true:=by rfl) (hd:o.dst=some d:=by rfl) (aN:Nat.blt d af=true:=by rfl) (ag:k+1=bn:=by(simp only[Nat.reduceAdd];rfl)) (cG:Nat.ble aA k=true:=by rfl) (h:bf P af aA ops W bn rest ((d,.ro (l.map bm)) :: env) heap Q):bf P af aA ops W k (o :: rest) env heap Q:=by
 subst br ag;refine oo (s:=⟨.ro (l.map bm),[]⟩) (fun N _ _=>⟨bt (looks ops o) env,[],fun t x h=>nI h,fun id B h=>(by cases h),fun id h=>(sI h).elim,vD av (fun fW cB ax hH=>?_)⟩) ?_ cG
 ·have:=RJ (P:=P) (n0:=N) (st:=⟨fW,cB,N,af⟩) ae hd aN (kB ax U) aY ja he h63;rw[hd];exact this
 ·rw[hd];exact h
theorem lU {l r:List (List V)} {vs:List V} {v:V} (hi:i<l.length) (hr:l.set i (setAt j vs (bb l i))=r) (ae:o.op = .store T x y:=by rfl) (av:b1 (bt (looks ops o) env) ops o.guard=some true:=by rfl) (hd:o.dst=none:=by rfl) (U:aJ (bt (looks ops o) env) x=some (.ptr id i s j):=by rfl) (hh:aM heap id=some (.row e s l):=by rfl) (aj:aJ (bt (looks ops o) env) y=some v:=by rfl) (hf:flat v=some vs:=by rfl) (ar:vs.all hQ=true:=by rfl) (aY:dr P T=some vs.length:=by rfl) (ao:Nat.ble (j+vs.length) s=true:=by rfl) (ag:k+1=bn:=by(simp only[Nat.reduceAdd];rfl)) (hb:Nat.ble aA k=true:=by rfl) (kx:W (k - aA) id=true:=by rfl) (ak:jQ ops W aA (k - aA) id=true:=by kernel_rfl) (h:bf P af aA ops W bn rest env ((id,some (.row e s r)) :: heap) Q):bf P af aA ops W k (o :: rest) env heap Q:=by
 subst ag hr;refine oo (s:=⟨.gN,[(id,some (.row e s (l.set i (setAt j vs (bb l i)))))]⟩) (fun N J aa=>⟨bt (looks ops o) env,[(id,some (.row e s l))],fun t x h=>nI h,fun dk bd c6=>?_,fun dk h=>.inr ?_,?_⟩) ?_ hb
 ·rw[cl] at c6;split at c6
  ·rename_i e;subst e;injection c6 with c6;subst c6;exact⟨ak,hh⟩
  ·cases c6
 ·rw[rz h,ae];exact⟨kx,rfl,ak⟩
 ·refine vD av (fun fW cB ax hH=>?_);have:=O0 (P:=P) (n0:=N) (st:=⟨fW,cB,N,af⟩) ae hd (kB ax U) (hH id (.row e s l) (by simp[aM])) hi (kB ax aj) hf ar aY ao;rw[hd];exact this
 ·rw[hd];exact h
theorem AH {T cX:TypeId} {n:Int} (ae:o.op = .binOp .quo T x y cX:=by rfl) (U:aJ (bt (looks ops o) env) x=some (.lit (.int cF m)):=by rfl) (aj:aJ (bt (looks ops o) env) y=some (.lit (.int cF n)):=by rfl) (hm:0<=m:=by omega) (hn:0<n:=by omega) (hw:cF.wrap (m / n)=m / n:=by first|(rw[IntKind.wrap_i64];omega)|(rw[IntKind.wrap_u64];omega)|(rw[IntKind.wrap_u8];omega)) (av:b1 (bt (looks ops o) env) ops o.guard=some true:=by rfl) (hd:o.dst=some d:=by rfl) (aN:Nat.blt d af=true:=by rfl) (ag:k+1=bn:=by(simp only[Nat.reduceAdd];rfl)) (cG:Nat.ble aA k=true:=by rfl) (h:bf P af aA ops W bn rest ((d,.lit (.int cF (m / n))) :: env) heap Q):bf P af aA ops W k (o :: rest) env heap Q:=by
 refine jc av hd aN cG ag (fun N=>?_) h;have:=DF (P:=P) (G:=[]) (st:=⟨(bt (looks ops o) env),[],N,af⟩) ae U aj (by omega);rw[Int.tdiv_eq_ediv_of_nonneg hm,hw] at this;exact this
theorem AI {T cX:TypeId} {n:Int} (ae:o.op = .binOp .rem T x y cX:=by rfl) (U:aJ (bt (looks ops o) env) x=some (.lit (.int cF m)):=by rfl) (aj:aJ (bt (looks ops o) env) y=some (.lit (.int cF n)):=by rfl) (hm:0<=m:=by omega) (hn:0<n:=by omega) (av:b1 (bt (looks ops o) env) ops o.guard=some true:=by rfl) (hd:o.dst=some d:=by rfl) (aN:Nat.blt d af=true:=by rfl) (ag:k+1=bn:=by(simp only[Nat.reduceAdd];rfl)) (cG:Nat.ble aA k=true:=by rfl) (h:bf P af aA ops W bn rest ((d,.lit (.int cF (m % n))) :: env) heap Q):bf P af aA ops W k (o :: rest) env heap Q:=by
 refine jc av hd aN cG ag (fun N=>?_) h;have:=DG (P:=P) (G:=[]) (st:=⟨(bt (looks ops o) env),[],N,af⟩) ae U aj (by omega);rw[Int.tmod_eq_emod_of_nonneg hm] at this;exact this
theorem AZ {T cX:TypeId} {n:Int} (ae:o.op = .binOp .shr T x y cX:=by rfl) (U:aJ (bt (looks ops o) env) x=some (.lit (.int cF m)):=by rfl) (aj:aJ (bt (looks ops o) env) y=some (.lit (.int La n)):=by rfl) (hn:0<=n:=by omega) (av:b1 (bt (looks ops o) env) ops o.guard=some true:=by rfl) (hd:o.dst=some d:=by rfl) (aN:Nat.blt d af=true:=by rfl) (ag:k+1=bn:=by(simp only[Nat.reduceAdd];rfl)) (cG:Nat.ble aA k=true:=by rfl) (h:bf P af aA ops W bn rest ((d,.lit (.int cF (m.fdiv (2 ^ min n.toNat cF.bits)))) :: env) heap Q):bf P af aA ops W k (o :: rest) env heap Q:=
 jc av hd aN cG ag (fun N=>Is ae U aj hn) h
theorem A0 {T cX:TypeId} {n:Int} (ae:o.op = .binOp .shl T x y cX:=by rfl) (U:aJ (bt (looks ops o) env) x=some (.lit (.int cF m)):=by rfl) (aj:aJ (bt (looks ops o) env) y=some (.lit (.int La n)):=by rfl) (hn:0<=n:=by omega) (av:b1 (bt (looks ops o) env) ops o.guard=some true:=by rfl) (hd:o.dst=some d:=by rfl) (aN:Nat.blt d af=true:=by rfl) (ag:k+1=bn:=by(simp only[Nat.reduceAdd];rfl)) (cG:Nat.ble aA k=true:=by rfl) (h:bf P af aA ops W bn rest ((d,.lit (.int cF (cF.wrap (m * 2 ^ min n.toNat cF.bits)))) :: env) heap Q):bf P af aA ops W k (o :: rest) env heap Q:=
 jc av hd aN cG ag (fun N=>Ir ae U aj hn) h
theorem AX {T cX:TypeId} {m:List UInt8} (ae:o.op = .binOp .neq T x y cX:=by rfl) (U:aJ (bt (looks ops o) env) x=some (.lit (.string (c7 l))):=by rfl) (aj:aJ (bt (looks ops o) env) y=some (.lit (.string (c7 m))):=by rfl) (av:b1 (bt (looks ops o) env) ops o.guard=some true:=by rfl) (hd:o.dst=some d:=by rfl) (aN:Nat.blt d af=true:=by rfl) (ag:k+1=bn:=by(simp only[Nat.reduceAdd];rfl)) (hb:Nat.ble aA k=true:=by rfl) (ht:¬ l=m->bf P af aA ops W bn rest ((d,ab true) :: env) heap Q) (hf:l=m->bf P af aA ops W bn rest ((d,ab false) :: env) heap Q):bf P af aA ops W k (o :: rest) env heap Q:=by
 have h:=fun N=>OK (P:=P) (G:=[]) (st:=⟨(bt (looks ops o) env),[],N,af⟩) ae U aj
 simp only[decide_eq_decide.2 (not_congr (E9 (l:=l) (m:=m)))] at h;by_cases ar:l=m
 ·simp only[decide_eq_false (fun h=>h ar:¬ ¬ l=m)] at h;exact jc av hd aN hb ag h (hf ar)
 ·simp only[decide_eq_true ar] at h;exact jc av hd aN hb ag h (ht ar)
end
def atR (n:Nat):Code->Bool
 | .region i _ _=>Nat.beq i n
 | .seq a _=>atR n a
 | .block _ a=>atR n a
 | .loop a=>atR n a
 | _=>false
theorem Xt {P:Program} {n0:Nat} {st:aW} (n:Nat) {x y:Code} {Q:Exit->aW->Prop} (hn:atR n x=false) (h:cE P n0 x st (sC (fun bq=>cE P n0 y bq Q) Q)):cE P n0 (.seq x y) st Q:=gW h
section
variable {P:Program} {n0:Nat} {o:Oper} {ops rest:List Oper} {env:List (Nat×V)} {heap:List (Nat×Option aT)} {next af:Nat} {Q:aW->Prop}
theorem A8 {cX:TypeId} {a b:Bool} (ae:o.op = .binOp .neq T x y cX:=by rfl) (U:aJ env x=some (ab a):=by rfl) (aj:aJ env y=some (ab b):=by rfl) (aY:P.underlying T=some .bool:=by rfl) (av:b1 env ops o.guard=some true:=by rfl) (hd:o.dst=some d:=by rfl) (aN:Nat.blt d af=true:=by rfl) (ht:¬ a=b->a6 P n0 ops.toArray rest ⟨(d,ab true) :: env,heap,next,af⟩ Q) (hf:a=b->a6 P n0 ops.toArray rest ⟨(d,ab false) :: env,heap,next,af⟩ Q):a6 P n0 ops.toArray (o :: rest) ⟨env,heap,next,af⟩ Q:=by
 have h:=Ry (P:=P) (G:=[]) (st:=⟨env,heap,next,af⟩) ae U aj aY;by_cases ar:a=b
 ·rw[show decide (¬ a=b)=false from by simp[ar]] at h;exact ir av hd aN h (hf ar)
 ·rw[show decide (¬ a=b)=true from by simp[ar]] at h;exact ir av hd aN h (ht ar)
end
section
variable {P:Program} {o:Oper} {af aA k bn:Nat} {ops:List Oper} {W:Nat->Nat->Bool} {rest:List Oper} {env:List (Nat×V)} {heap:List (Nat×Option aT)} {Q:aW->Prop}
theorem A9 {cX:TypeId} {a b:Bool} (ae:o.op = .binOp .neq T x y cX:=by rfl) (U:aJ (bt (looks ops o) env) x=some (ab a):=by rfl) (aj:aJ (bt (looks ops o) env) y=some (ab b):=by rfl) (aY:P.underlying T=some .bool:=by rfl) (av:b1 (bt (looks ops o) env) ops o.guard=some true:=by rfl) (hd:o.dst=some d:=by rfl) (aN:Nat.blt d af=true:=by rfl) (ag:k+1=bn:=by(simp only[Nat.reduceAdd];rfl)) (hb:Nat.ble aA k=true:=by rfl) (ht:¬ a=b->bf P af aA ops W bn rest ((d,ab true) :: env) heap Q) (hf:a=b->bf P af aA ops W bn rest ((d,ab false) :: env) heap Q):bf P af aA ops W k (o :: rest) env heap Q:=by
 have h:=fun N=>Ry (P:=P) (G:=[]) (st:=⟨bt (looks ops o) env,[],N,af⟩) ae U aj aY
 by_cases ar:a=b
 ·simp only[show decide (¬ a=b)=false from by simp[ar]] at h;exact jc av hd aN hb ag h (hf ar)
 ·simp only[show decide (¬ a=b)=true from by simp[ar]] at h;exact jc av hd aN hb ag h (ht ar)
end
section
variable {P:Program} {n0:Nat} {o:Oper} {ops rest:List Oper} {env:List (Nat×V)} {heap:List (Nat×Option aT)} {next af:Nat} {Q:aW->Prop}
theorem Vy {c5:List (Nat×List V)} {l dW r:List (List V)} (hr:dW = r) (ae:o.op = .buildSlice t len parts:=by rfl) (ht:P.underlying t=some (.slice e):=by rfl) (ar:mo env parts.toList=some c5:=by rfl) (ao:r0 P e len c5=some l:=by rfl) (hv:lc l dW:=by repeat'(first|exact lc.nil|apply lc.cons|exact Norm.nil|apply Norm.cons)) (rF:dW.all (fun cs=>cs.all hQ)=true:=by rfl) (av:b1 env ops o.guard=some true:=by rfl) (hd:o.dst=some d:=by rfl) (aN:Nat.blt d af=true:=by rfl) (hlen:Nat.blt 0 len=true:=by rfl) (jO:Nat.ble (len * (dr P e).getD 0) 16777216=true:=by rfl) (h:a6 P n0 ops.toArray rest ⟨(d,.ro r) :: env,heap,next,af⟩ Q):a6 P n0 ops.toArray (o :: rest) ⟨env,heap,next,af⟩ Q:=by
 subst hr;exact tJ ae ht ar ao hv rF av hd aN hlen jO h
end
section
variable {P:Program} {o:Oper} {af aA k bn:Nat} {ops:List Oper} {W:Nat->Nat->Bool} {rest:List Oper} {env:List (Nat×V)} {heap:List (Nat×Option aT)} {Q:aW->Prop}
theorem CK (m n:Nat) (br:a.getD 0=(m:Int)) (cG:b.getD l.length=(n:Int)) (hP:m<=n) (hn:n<=l.length) (hr:(l.take n).drop m=r) (ae:o.op = .slice t x gC hi none:=by rfl) (U:aJ (bt (looks ops o) env) x=some (.lit (.string (c7 l))):=by rfl) (gb:k2 (bt (looks ops o) env) gC=some a:=by rfl) (iI:k2 (bt (looks ops o) env) hi=some b:=by rfl) (ht:P.underlying t=some .string:=by rfl) (av:b1 (bt (looks ops o) env) ops o.guard=some true:=by rfl) (hd:o.dst=some d:=by rfl) (aN:Nat.blt d af=true:=by rfl) (ag:k+1=bn:=by(simp only[Nat.reduceAdd];rfl)) (hb:Nat.ble aA k=true:=by rfl) (h:bf P af aA ops W bn rest ((d,.lit (.string (c7 r))) :: env) heap Q):bf P af aA ops W k (o :: rest) env heap Q:=by
 subst hr;exact jc av hd aN hb ag (fun N=>RE ae U gb iI ht br cG hP hn) h
end
theorem Lb {m:Nat->Nat} {eW:Nat} {heap cB:List (Nat×Option aT)} (h:∀ id B,aM heap id=some B->aM cB id=some B):∀ {e:List (Nat×Option aT)},ox m eW heap e->ox m eW cB e
 | [],_=>trivial
 | (_,none) :: r,hc=>Lb (e:=r) h hc
 | (_,some _) :: r,hc=>⟨⟨hc.1.1,h _ _ hc.1.2⟩,Lb (e:=r) h hc.2⟩
def x5 (heap:List (Nat×Option aT)):List Nat->List (Nat×Option aT)
 | []=>[]
 | id :: M=>(id,aM heap id) :: x5 heap M
theorem Sf {heap:List (Nat×Option aT)}:∀ {M:List Nat} {id:Nat} {B:aT},aM (x5 heap M) id=some B->ow M id=true/\aM heap id=some B
 | [],id,B,h=>by simp[x5,aM] at h
 | a :: M,id,B,h=>by
  unfold x5 at h;rw[cl] at h;split at h
  ·rename_i e;subst e;exact⟨by simp[ow],h⟩
  ·have:=Sf (M:=M) h;exact⟨by simp[ow,this.1],this.2⟩
theorem Sg {M:List Nat} {k:Nat}:∀ {H:List (Nat×Option aT)},H.all (fun p=>Nat.beq p.1 k || ow M p.1)=true -> ∀ id,lq H id=true->id=k\/ow M id=true
 | [],_,id,h=>by cases h
 | p :: H,br,id,h=>by
  rw[List.all_cons,fM] at br;unfold lq at h
  cases hb:Nat.beq p.1 id with
  | true=>
   have e:=iF hb;subst e;have J:=br.1;rw[Bool.or_eq_true] at J;rcases J with J|J
   ·exact .inl (iF J)
   ·exact .inr J
  | false=>
   rw[hb] at h;exact Sg (H:=H) br.2 id h
theorem Lc {M:List Nat} {p:Nat->Bool} (h:M.all p=true) (hm:ow M id=true):p id=true:=by
 exact lG.1 h id (Fm hm)
section
variable {P:Program} {o:Oper} {af aA k bn:Nat} {ops:List Oper} {W:Nat->Nat->Bool} {rest:List Oper} {env:List (Nat×V)} {heap:List (Nat×Option aT)} {Q:aW->Prop}
theorem gd {vs cP:List V} {r gm:V} {ai:List (Nat×Option aT)} (M:List Nat) (hf:cA P f cP ai M.length r J bB) (ae:o.op = .call { callee:=.value (.func f),args:=xs,argTypes:=ts }:=by rfl) (av:b1 (bt (looks ops o) env) ops o.guard=some true:=by rfl) (hd:o.dst=some d:=by rfl) (aN:Nat.blt d af=true:=by rfl) (U:h3 (bt (looks ops o) env) xs.toList=some vs:=by rfl) (hw : ∀ N, ez vs (cz.ej (cp (M ++ [k]) N) cP) := by (intro N; (repeat' (first | exact ez.nil | refine ez.cons ?_ ?_ | exact dt.refl _ | exact dt.nil | refine dt.agg ?_ | refine dt.bN ?_)); first | done | fail "args")) (hZ : kF (M ++ [k]) = true := by rfl) (hh : ∀ N, ox (cp (M ++ [k]) N) M.length (x5 heap M) ai := by (intro N; (repeat' (first | exact True.intro | exact rfl | refine And.intro ?_ ?_)); first | done | fail "mem")) (jY:bB=M.length+1:=by rfl) (uZ:J.all (fun p=>Nat.blt p.1 bB)=true:=by rfl) (hr:∀ N,cz (cp (M++[k]) N) r=gm:=by first|(intro N;simp only[cz,cz.ej,jv,kg,od,oT,oU,oV,oW,oX,oY,oZ];rfl)|(intro N;rfl)) (hH:∀ N,hA (cp (M++[k]) N) J++hO M=H:=by(intro N;simp only[hA,jm,cz,cz.ej,hO,Option.map_some,Option.map_none,jv,kg,od,oT,oU,oV,oW,oX,oY,oZ];rfl)) (cf:H.all (fun p=>Nat.beq p.1 k || ow M p.1)=true:=by rfl) (kx:M.all (fun id=>W (k - aA) id)=true:=by kernel_rfl) (ak:M.all (fun id=>jQ ops W aA (k - aA) id)=true:=by kernel_rfl) (ag:k+1=bn:=by(simp only[Nat.reduceAdd];rfl)) (cG:Nat.ble aA k=true:=by rfl) (hc:D8 o.op=true:=by rfl) (abt:H++heap=cB:=by(simp only[jv,kg];rfl)) (h:bf P af aA ops W bn rest ((d,gm) :: env) cB Q):bf P af aA ops W k (o :: rest) env heap Q:=by
 subst abt;refine rD (Hn:=x5 heap M) (H:=H) av hd ag cG (fun id B h=>?_) (fun id h=>?_) (fun N fW cB ax Ar=>?_) h
 ·obtain ⟨aL,aS⟩:=Sf h;exact⟨Lc ak aL,aS⟩
 ·rcases Sg cf id h with q|q
  ·exact .inl q
  ·exact .inr ⟨Lc kx q,hc,Lc ak q⟩
 ·have:=R7 (k:=k) (st:=⟨fW,cB,N,af⟩) M hf ae o7 (Au ax U) (hw N) hZ (Lb (fun id B h=>Ar id B h) (hh N)) jY uZ;rw[hd] at this;rw[hr N,<- lS,hH N] at this;exact this
end
section
variable {P:Program} {n0:Nat} {o:Oper} {ops rest:List Oper} {env:List (Nat×V)} {heap:List (Nat×Option aT)} {next af:Nat} {Q:aW->Prop}
theorem CM [Inhabited α] {f:α->List V} {z:Operand} {v:V} {l r:List α} (m n:Nat) (br:a.getD 0=(m:Int)) (hb:b.getD l.length=(n:Int)) (hP:m<=n) (hn:n<=l.length) (hr:(l.take n).drop m=r) (ae:o.op = .slice t x gC hi (some z):=by rfl) (U:aJ env x=some v:=by rfl) (ak:uo heap v=some (l.map f):=by rfl) (gb:k2 env gC=some a:=by rfl) (iI:k2 env hi=some b:=by rfl) (Bv:hi.isSome=true:=by rfl) (aU:aJ env z=some (.lit (.int rG Bw)):=by rfl) (hc:Bw=(n:Int):=by first|rfl|omega) (ht:P.underlying t=some (.slice e):=by rfl) (aw:dr P e=some s:=by rfl) (jz:∀ x,(f x).length=s:=by intro x;rfl) (av:b1 env ops o.guard=some true:=by rfl) (hd:o.dst=some d:=by rfl) (aN:Nat.blt d af=true:=by rfl) (h:a6 P n0 ops.toArray rest ⟨(d,.ro (r.map f)) :: env,heap,next,af⟩ Q):a6 P n0 ops.toArray (o :: rest) ⟨env,heap,next,af⟩ Q:=by
 have e:((l.map f).take n).drop m=r.map f:=by rw[<- hr,List.map_drop,List.map_take]
 refine ir av hd aN ?_ h;rw[<- e];exact aaM (l:=l.map f) ae U ak gb iI Bv aU ht aw (KV jz) br (by rw[bY];exact hb) hc hP (e4 _) (by rw[bY];exact hn)
end
section
variable {P:Program} {G:List Nat} {o:Oper} {st:aW}
end
end
section
open Go.RowKit Go.ChangeMaps
section
variable {P:Program} {o:Oper} {n0:Nat} {st:aW}
theorem UK {w:World} {b:Nat} {fx:Obj} (h:w.heap[b]? = some fx) (o:Obj):(setBlock w b o).heap[b]? = some o:=by
 have bW:=(gB.1 h).1;simp[setBlock,bW]
theorem UJ (w:World) (b:Nat) (o:Obj) (h:i≠b):(setBlock w b o).heap[i]? = w.heap[i]?:=by
 unfold setBlock;rw[Array.getElem?_setIfInBounds,ah (Ne.symm h)]
section
variable {ops:List Oper} {rest:List Oper} {env:List (Nat×V)} {heap:List (Nat×Option aT)} {next af:Nat} {Q:aW->Prop}
end
end
end
section
open Go.RowKit
section
variable {P:Program} {o:Oper} {n0:Nat} {st:aW} {G:List Nat}
section
variable {ops:List Oper} {rest:List Oper} {env:List (Nat×V)} {heap:List (Nat×Option aT)} {next af:Nat} {Q:aW->Prop}
end
end
end
end Go.Proofs.YtendheafcbickaaGreat
