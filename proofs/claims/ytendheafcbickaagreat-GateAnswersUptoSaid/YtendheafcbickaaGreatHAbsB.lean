
import Derived.Test.YtendheafcbickaaGreatHAbsA
import Derived.Great.BuildSlice
import Derived.Laws.StructEq
import Derived.Deep.OwnRows
import Derived.ChangeMaps5
import Derived.Lib.AppendStr
import Derived.Laws.RangeString
set_option linter.unusedVariables false
set_option linter.unusedSimpArgs false
section
namespace Go.Proofs.YtendheafcbickaaGreat
open Go.RowKit
def strB (l:List UInt8):ByteArray:=⟨l.toArray⟩
theorem strB_size (l:List UInt8):(strB l).size=l.length:=by simp [strB,ByteArray.size]
theorem strB_list (l:List UInt8):(strB l).data.toList=l:=by simp [strB]
theorem strB_inj {l m:List UInt8}:strB l=strB m ↔ l=m:=⟨fun h=>by rw [← strB_list l,h,strB_list],fun h=>by rw [h]⟩
theorem strB_append (l m:List UInt8):strB l++strB m=strB (l++m):=by apply ByteArray.ext;simp [strB]
def encB (c:UInt8):List V:=[.lit (.int .u8 (c.toNat:Int))]
noncomputable def yes (p:Prop):Bool:=@decide p (Classical.propDecidable p)
theorem yes_t {p:Prop}:yes p=true ↔ p:=by unfold yes;exact @decide_eq_true_iff p (Classical.propDecidable p)
theorem yes_f {p:Prop}:yes p=false ↔ ¬ p:=by unfold yes;exact @decide_eq_false_iff_not p (Classical.propDecidable p)
theorem no_of {p:Prop} (h:¬ p):yes p=false:=yes_f.2 h
theorem yes_of {p:Prop} (h:p):yes p=true:=yes_t.2 h
theorem yesV {p:Prop} (h:p):V.lit (.bool true) = .lit (.bool (yes p)):=by rw [yes_of h]
theorem noV {p:Prop} (h:¬ p):V.lit (.bool false) = .lit (.bool (yes p)):=by rw [no_of h]
section
variable {P:Program} {G:List Nat} {o:Oper} {st:St}
theorem q_bool_eql {T yt:TypeId} {x y:Operand} {m n:Bool} (ho:o.op = .binOp .eql T x y yt) (hx:opE st.env x=some (.lit (.bool m))) (hy:opE st.env y=some (.lit (.bool n))) (hT:P.underlying T=some .bool) :
    QStep P G o st (.lit (.bool (decide (m=n)))):=q_bin ho hx hy (fun w=>by
      have:=run_equalIn_bool (P:=P) w 9999 T m n hT
      have e:(m == n)=decide (m=n):=by cases m <;> cases n <;> rfl
      rw [e] at this
      simp [eqGuard,binOp,Op.equal,Op.maxDepth,Sem.run_bind,Sem.run_pure,this]) rfl
theorem q_bool_neq {T yt:TypeId} {x y:Operand} {m n:Bool} (ho:o.op = .binOp .neq T x y yt) (hx:opE st.env x=some (.lit (.bool m))) (hy:opE st.env y=some (.lit (.bool n))) (hT:P.underlying T=some .bool) :
    QStep P G o st (.lit (.bool (decide (¬ m=n)))):=q_bin ho hx hy (fun w=>by
      have:=run_equalIn_bool (P:=P) w 9999 T m n hT
      have e:(m == n)=decide (m=n):=by cases m <;> cases n <;> rfl
      rw [e] at this
      simp [eqGuard,binOp,Op.equal,Op.maxDepth,Sem.run_bind,Sem.run_pure,this]) rfl
theorem Ext.none {w w':World} {ρ:Nat→Option Value} (h:Ext (GB ρ []) w w'):Same (fun _=>True) w w':=fun b _ hb=>h.block b hb (fun ⟨id,_,hm,_⟩=>by cases hm)
theorem q_bstr {T U e:TypeId} {x:Operand} {v:V} {l:List UInt8} (ho:o.op = .convert T U x) (hx:opE st.env x=some v) (hv:srcV st.heap v=some (l.map encB)) (hT:P.underlying T=some (.slice e)) (he:P.underlying e=some (.int .u8)) (hU:P.underlying U=some .string) :
    QStep P [] o st (.lit (.string (strB l))):=fun F base w0 ρ a w hH hE _=>by
  refine ⟨_,.pure (.lit _ rfl),fun w' hw'=>?_⟩
  unfold execOp;rw [ho];simp only []
  have hl:∀ i,i<(l.map encB).length→(eAt (l.map encB) i).length=1:=fun i hi=>by
    rw [List.length_map] at hi
    rw [eAt_map encB hi];rfl
  obtain ⟨A,c,news,hu,hnl,hA,hrel⟩:=src_spec (F:=F) (base:=base) (w0:=w0) (next:=st.next) (ρ:=ρ) (heap:=st.heap) hH (opE_sound hE hx) hv hl (by omega)
  rw [hu]
  simp only [List.length_map,Nat.mul_one] at hnl hA hrel ⊢
  have hcell:∀ j (hj:j<l.length) (a0:Addr),A=some a0→(∀ j u,news[j]? = some u→w.cell? (a0.add j)=some u)→w'.cell? (a0.add j)=some (.int .u8 (l[j].toNat:Int)):=by
    intro j hj a0 ha hn
    obtain ⟨u,h1,h2⟩:=hrel j 0 hj (by omega)
    simp only [Nat.add_zero] at h1
    have hc:=hn j u h1
    have hj2:l.getD j default=l[j]:=by rw [List.getD_eq_getElem?_getD,List.getElem?_eq_getElem hj];rfl
    rw [eAt_map encB hj,hj2] at h2
    have e:cAt (encB l[j]) 0 = .lit (.int .u8 (l[j].toNat:Int)):=rfl
    rw [e] at h2
    cases h2
    have hbl:=World.block_lt_of_cell? w _ hc
    have:=hw'.none _ trivial hbl
    rw [← hc]
    simp [World.cell?,this]
  by_cases h0:l.length=0
  · have:l=[]:=List.eq_nil_of_length_eq_zero h0
    subst this
    rw [Sem.run_bind,run_convert_bytes_string w' T U e A _ _ hT he hU]
    cases A with
    | none=>rfl
    | some a0=>
      have:=run_bytesToString (P:=P) w' a0 0 c [] (by have:=run_loadCells_list (P:=P) (w:=w') a0 [] (fun j v hj=>by simp at hj);simpa using this)
      simp only [List.length_nil] at this ⊢
      rw [this];rfl
  · rcases hA with hA | ⟨a0,ha,hn⟩
    · omega
    · subst ha
      simp only [Sem.run_bind,run_convert_bytes_back w' T U e a0 c l hT he hU (fun j hj=>hcell j hj a0 rfl hn)];rfl
theorem eAt_drop (l:List (List V)) (m i:Nat):eAt (l.drop m) i=eAt l (m+i):=by
  unfold eAt;rw [List.getD_eq_getElem?_getD,List.getD_eq_getElem?_getD,List.getElem?_drop]
theorem eAt_take (l:List (List V)) {n i:Nat} (h:i<n):eAt (l.take n) i=eAt l i:=by
  unfold eAt;rw [List.getD_eq_getElem?_getD,List.getD_eq_getElem?_getD,List.getElem?_take,if_pos h]
theorem ro_part {S:Nat→Prop} {w:World} {l:List (List V)} {u:Value} {s m n c':Nat} (h:PRel S w (.ro l) u) (hmn:m≤n) (hn:n≤l.length) (hc:∀ A L c,u = .slice A L c→n≤c' ∧ c' ≤ c) (hs:∀ i,i<l.length→(eAt l i).length=s) :
    ∃ A L c,u = .slice A L c∧L=l.length∧L≤c∧PRel S w (.ro ((l.take n).drop m)) (sliced A m n c' s):=by
  generalize hv:V.ro l=v at h
  cases h with
  | lit=>cases hv
  | ro l' A c s' b off us hcap hm hp hA hsz hcell hrel=>
    injection hv with hv;subst hv
    obtain ⟨c1,c2⟩:=hc _ _ _ rfl
    refine ⟨A,_,c,rfl,rfl,hcap,?_⟩
    have hlen:((l.take n).drop m).length=n - m:=by simp;omega
    have he:∀ i,i<n - m→eAt ((l.take n).drop m) i=eAt l (m+i):=fun i hi=>by rw [eAt_drop,eAt_take l (by omega)]
    unfold sliced
    by_cases h0:0<n - m
    · have hl0:0<l.length:=by omega
      obtain ⟨hA1,hA2⟩:=hA hl0
      have es:s' = s:=by rw [← hsz 0 hl0,hs 0 hl0]
      subst es
      subst hA1
      have hne:¬ c' = m:=by omega
      rw [if_neg hne]
      have e:(Option.map (fun x=>Addr.add x (m * s')) (some (Addr.mk b off none)))=some ⟨b,off+m * s',none⟩:=by simp [add_addr]
      rw [e]
      have:=PRel.ro (S:=S) (w:=w) ((l.take n).drop m) (some ⟨b,off+m * s',none⟩) (c' - m) s' b (off+m * s') (fun i j=>us (m+i) j) (by rw [hlen];omega) (by unfold maxLen at *;omega) hp (fun _=>⟨rfl,hA2⟩)
        (fun i hi=>by rw [hlen] at hi;rw [he i hi];exact hsz _ (by omega))
        (fun i j hi hj=>by
          rw [hlen] at hi
          have:=hcell (m+i) j (by omega) hj
          rw [Nat.add_mul] at this
          rw [← this];congr 2;omega)
        (fun i j hi hj=>by rw [hlen] at hi;rw [he i hi];exact hrel _ _ (by omega) hj)
      rwa [hlen] at this
    · have hnil:(l.take n).drop m=[]:=List.eq_nil_of_length_eq_zero (by omega)
      have hz:n - m=0:=by omega
      rw [hnil,hz]
      exact .ro [] _ (c' - m) 1 0 0 (fun _ _=>undef) (by simp) (by unfold maxLen at *;omega) (by omega) (fun h=>by simp at h) (fun i hi=>by simp at hi) (fun i j hi=>by simp at hi) (fun i j hi=>by simp at hi)
def boundE (env:List (Nat×V)):Option Operand→Option (Option Int)
  | none=>some none
  | some y=>match opE env y with
    | some (.lit (.int _ n))=>some (some n)
    | _=>none
theorem elemP {t e:TypeId} (ht:P.underlying t=some (.slice e)):P.elem t=e:=by
  unfold Program.elem;rw [ht]
def roV (heap:List (Nat×Option Blk)):V→Option (List (List V))
  | .ro l=>some l
  | .lit (.slice none 0 0)=>some []
  | .own id=>match getH heap id with
    | some (.fro l)=>some l
    | _=>none
  | _=>none
theorem roV_spec {F:Nat→Prop} {base:Nat→Prop} {ρ:Nat→Option Value} {heap:List (Nat×Option Blk)} {next:Nat} {w0 w:World} (hH:HRel0 F base ρ heap next w0 w) {v:V} {u:Value} (h:VRel ρ (Stab F ρ heap) w v u) {l:List (List V)} (hv:roV heap v=some l):PRel (Stab F ρ heap) w (.ro l) u:=by
  unfold roV at hv
  split at hv
  · injection hv with hv;subst hv
    cases h with
    | pure h=>exact h
  · injection hv with hv;subst hv
    rw [lit_inv h]
    exact .ro [] none 0 1 0 0 (fun _ _=>undef) (by simp) (by unfold maxLen;omega) (by omega) (fun h=>by simp at h) (fun i hi=>by simp at hi) (fun i j hi=>by simp at hi) (fun i j hi=>by simp at hi)
  · split at hv
    · rename_i hh
      injection hv with hv;subst hv
      obtain ⟨v,h1,h2,_⟩:=hH.blk _ _ hh
      rw [own_inv h] at h1;injection h1 with h1;subst h1
      exact h2
    · cases hv
  · cases hv
inductive Bnd:Option Value→Nat→Nat→Prop
  | none (d:Nat):Bnd none d d
  | some (k:IntKind) (n d:Nat):Bnd (some (.int k n)) d n
theorem run_slice_bnd {t e s m n len cap:Nat} {A:Option Addr} {lo hi:Option Value} (ht:P.underlying t=some (.slice e)) (hs:sizeT P e=some s) (hlo:Bnd lo 0 m) (hhi:Bnd hi len n) (hmn:m≤n) (hn:n≤cap) (w:World) :
    (Instr.sliceAt t (.slice A len cap) lo hi none).run P w = .ok (sliced A m n cap s) w:=by
  have he:=elemP ht
  have ht':P.underlying t=some (.slice (P.elem t)):=by rw [he];exact ht
  have hs':(sizeOf (P.elem t)).run P w = .ok s w:=by rw [he];exact run_sizeT hs w
  rw [run_sliceAt_slice w t _ _ _ _ ht']
  cases hlo with
  | none=>
    cases hhi with
    | none=>rw [run_slice_all w t A _ cap ht',hs'];rfl
    | some k n=>rw [run_slice_h w t A len cap ht' k n (by omega) (by omega),hs'];simp [Result.andThen]
  | some k m=>
    cases hhi with
    | none=>rw [run_slice_l w t A _ cap ht' k m (by omega) (by omega),hs'];simp [Result.andThen]
    | some k' n=>rw [run_slice_lh w t A len cap ht' k k' m n (by omega) (by omega) (by omega),hs'];simp [Result.andThen]
theorem bnd_of {ρ:Nat→Option Value} {S:Nat→Prop} {w:World} {nt:Nat} {env:List (Nat×V)} {a:Act} (hE:ERel ρ S w nt env a) {o:Option Operand} {b:Option Int} {m d:Nat} (h:boundE env o=some b) (hb:b.getD d=(m:Int)):Bnd (o.map a.eval) d m:=by
  cases o with
  | none=>
    simp only [boundE,Option.some.injEq] at h
    subst h
    simp only [Option.getD_none] at hb
    have:d=m:=by omega
    subst this
    exact .none d
  | some y=>
    simp only [boundE] at h
    split at h
    · rename_i k n hy
      injection h with h;subst h
      simp only [Option.getD_some] at hb
      subst hb
      rw [Option.map_some,lit_inv (opE_sound hE hy)]
      exact .some _ _ _
    · cases h
theorem q_slice {t e s m n:Nat} {x:Operand} {lo hi:Option Operand} {v:V} {l:List (List V)} {a b:Option Int} (ho:o.op = .slice t x lo hi none) (hx:opE st.env x=some v) (hv:roV st.heap v=some l) (hlo:boundE st.env lo=some a) (hhi:boundE st.env hi=some b)
    (ht:P.underlying t=some (.slice e)) (hs:sizeT P e=some s) (hsl:∀ i,i<l.length→(eAt l i).length=s) (ha:a.getD 0=(m:Int)) (hb:b.getD l.length=(n:Int)) (hmn:m≤n) (hn:n≤l.length):QStep P G o st (.ro ((l.take n).drop m)):=
  q_of_run fun F base w0 ρ ac w hH hE=>by
    have hp:=roV_spec hH (opE_sound hE hx) hv
    have hex:∃ A L c,ac.eval x = .slice A L c∧L=l.length∧L≤c:=by
      generalize ac.eval x=u at hp
      cases hp with
      | ro=>exact ⟨_,_,_,rfl,rfl,by assumption⟩
    obtain ⟨A,L,c,hu,hL,hLc⟩:=hex
    subst hL
    obtain ⟨A',L',c'',hu',_,_,hr⟩:=ro_part (c':=c) hp hmn hn (fun A0 L0 c0 h0=>by rw [hu] at h0;injection h0 with _ _ h0;subst h0;exact ⟨by omega,Nat.le_refl _⟩) hsl
    rw [hu] at hu';injection hu' with e1 e2 e3;subst e1
    refine ⟨_,.pure hr,fun w'=>?_⟩
    unfold execOp;rw [ho];simp only [Option.map_none];rw [hu]
    simp only [Sem.run_bind,run_slice_bnd ht hs (bnd_of hE hlo ha) (bnd_of hE hhi hb) hmn (show n≤c by omega) w'];rfl
def isPtr:V→Bool
  | .ptr ..=>true
  | .rp _=>true
  | _=>false
theorem q_nilcheck {x:Operand} {v:V} (ho:o.op = .nilCheck x) (hx:opE st.env x=some v) (hv:isPtr v=true):QStep P G o st v:=
  q_of_run fun F base w0 ρ a w hH hE=>by
    have h:=opE_sound hE hx
    refine ⟨_,h,fun w'=>?_⟩
    unfold execOp;rw [ho];simp only []
    cases v with
    | ptr=>obtain ⟨r,b,h1,h2,h3⟩:=ptr_inv h;rw [h3];rfl
    | rp=>obtain ⟨b,off,us,h1,_⟩:=rp_inv h;rw [h1];rfl
    | _=>cases hv
section
variable {n0:Nat} {ops:List Oper} {rest:List Oper} {env:List (Nat×V)} {heap:List (Nat×Option Blk)} {next nt:Nat} {Q:St→Prop}
theorem s_seql {T yt:TypeId} {x y:Operand} {l m:List UInt8} {d:Nat} (ho:o.op = .binOp .eql T x y yt:=by rfl) (hx:opE env x=some (.lit (.string (strB l))):=by rfl) (hy:opE env y=some (.lit (.string (strB m))):=by rfl) (hg:guardV env ops o.guard=some true:=by rfl) (hd:o.dst=some d:=by rfl) (hdn:Nat.blt d nt=true:=by rfl)
    (ht:l=m→RunL P n0 ops.toArray rest ⟨(d,.lit (.bool true)) :: env,heap,next,nt⟩ Q) (hf:¬ l=m→RunL P n0 ops.toArray rest ⟨(d,.lit (.bool false)) :: env,heap,next,nt⟩ Q):RunL P n0 ops.toArray (o :: rest) ⟨env,heap,next,nt⟩ Q:=by
  have h:=q_str_eql (P:=P) (G:=[]) (st:=⟨env,heap,next,nt⟩) ho hx hy
  rw [decide_eq_decide.2 strB_inj] at h
  by_cases hp:l=m
  · rw [decide_eq_true hp] at h;exact x_q hg hd hdn h (ht hp)
  · rw [decide_eq_false hp] at h;exact x_q hg hd hdn h (hf hp)
theorem s_beq {T yt:TypeId} {x y:Operand} {m n:Bool} {d:Nat} (ho:o.op = .binOp .eql T x y yt:=by rfl) (hx:opE env x=some (.lit (.bool m)):=by rfl) (hy:opE env y=some (.lit (.bool n)):=by rfl) (hT:P.underlying T=some .bool:=by rfl) (hg:guardV env ops o.guard=some true:=by rfl) (hd:o.dst=some d:=by rfl) (hdn:Nat.blt d nt=true:=by rfl)
    (ht:m=n→RunL P n0 ops.toArray rest ⟨(d,.lit (.bool true)) :: env,heap,next,nt⟩ Q) (hf:¬ m=n→RunL P n0 ops.toArray rest ⟨(d,.lit (.bool false)) :: env,heap,next,nt⟩ Q):RunL P n0 ops.toArray (o :: rest) ⟨env,heap,next,nt⟩ Q:=by
  have h:=q_bool_eql (P:=P) (G:=[]) (st:=⟨env,heap,next,nt⟩) ho hx hy hT
  by_cases hp:m=n
  · rw [decide_eq_true hp] at h;exact x_q hg hd hdn h (ht hp)
  · rw [decide_eq_false hp] at h;exact x_q hg hd hdn h (hf hp)
theorem s_yes {f:FuncId} {xs:Array Operand} {ts:Array TypeId} {vs vs':List V} {p:Prop} {d:Nat} (hf:Fn P f vs' (.lit (.bool (yes p)))) (ho:o.op = .call { callee:=.value (.func f),args:=xs,argTypes:=ts }:=by rfl) (hg:guardV env ops o.guard=some true:=by rfl) (hd:o.dst=some d:=by rfl) (hdn:Nat.blt d nt=true:=by rfl)
    (hx : argsE env xs.toList = some vs := by rfl) (hb : belowV.belowL 0 vs = true := by rfl) (hw : WkL vs vs' := by ((repeat' (first | exact WkL.nil | refine WkL.cons ?_ ?_ | exact Wk.refl _ | exact Wk.nil | refine Wk.agg ?_ | refine Wk.tup ?_)); first | done | fail "args")) (ht : p → RunL P n0 ops.toArray rest ⟨(d, .lit (.bool true)) :: env, heap, next, nt⟩ Q) (hff : ¬ p → RunL P n0 ops.toArray rest ⟨(d, .lit (.bool false)) :: env, heap, next, nt⟩ Q) : RunL P n0 ops.toArray (o :: rest) ⟨env, heap, next, nt⟩ Q :=
  s_ask hf ho hg hd hdn hx hb hw (fun h=>ht (yes_t.1 h)) (fun h=>hff (yes_f.1 h))
theorem s_nilc {x:Operand} {v:V} {d:Nat} (ho:o.op = .nilCheck x:=by rfl) (hx:opE env x=some v:=by rfl) (hv:isPtr v=true:=by rfl) (hg:guardV env ops o.guard=some true:=by rfl) (hd:o.dst=some d:=by rfl) (hdn:Nat.blt d nt=true:=by rfl)
    (h:RunL P n0 ops.toArray rest ⟨(d,v) :: env,heap,next,nt⟩ Q):RunL P n0 ops.toArray (o :: rest) ⟨env,heap,next,nt⟩ Q:=x_q hg hd hdn (q_nilcheck ho hx hv) h
theorem s_bstr {T U e:TypeId} {x:Operand} {v:V} {l:List UInt8} {d:Nat} (ho:o.op = .convert T U x:=by rfl) (hx:opE env x=some v:=by rfl) (hv:srcV heap v=some (l.map encB):=by rfl) (hT:P.underlying T=some (.slice e):=by rfl) (he:P.underlying e=some (.int .u8):=by rfl) (hU:P.underlying U=some .string:=by rfl)
    (hg:guardV env ops o.guard=some true:=by rfl) (hd:o.dst=some d:=by rfl) (hdn:Nat.blt d nt=true:=by rfl) (h:RunL P n0 ops.toArray rest ⟨(d,.lit (.string (strB l))) :: env,heap,next,nt⟩ Q):RunL P n0 ops.toArray (o :: rest) ⟨env,heap,next,nt⟩ Q:=x_q hg hd hdn (q_bstr ho hx hv hT he hU) h
theorem len1 {l:List UInt8}:∀ i,i<(l.map encB).length→(eAt (l.map encB) i).length=1:=fun i hi=>by
  rw [List.length_map] at hi;rw [eAt_map encB hi];rfl
theorem lenf {α:Type} [Inhabited α] {f:α→List V} {l:List α} {s:Nat} (h:∀ x,(f x).length=s):∀ i,i<(l.map f).length→(eAt (l.map f) i).length=s:=fun i hi=>by
  rw [List.length_map] at hi;rw [eAt_map f hi];exact h _
theorem s_slice {α:Type} [Inhabited α] {f:α→List V} {t e s d:Nat} {x:Operand} {lo hi:Option Operand} {v:V} {l r:List α} {a b:Option Int} (m n:Nat) (ha:a.getD 0=(m:Int)) (hb:b.getD l.length=(n:Int)) (hmn:m≤n) (hn:n≤l.length) (hr:(l.take n).drop m=r)
    (ho:o.op = .slice t x lo hi none:=by rfl) (hx:opE env x=some v:=by rfl) (hv:roV heap v=some (l.map f):=by rfl) (hlo:boundE env lo=some a:=by rfl) (hhi:boundE env hi=some b:=by rfl)
    (ht:P.underlying t=some (.slice e):=by rfl) (hs:sizeT P e=some s:=by rfl) (hsl:∀ x,(f x).length=s:=by intro x;rfl)
    (hg:guardV env ops o.guard=some true:=by rfl) (hd:o.dst=some d:=by rfl) (hdn:Nat.blt d nt=true:=by rfl) (h:RunL P n0 ops.toArray rest ⟨(d,.ro (r.map f)) :: env,heap,next,nt⟩ Q):RunL P n0 ops.toArray (o :: rest) ⟨env,heap,next,nt⟩ Q:=by
  have e:((l.map f).take n).drop m=r.map f:=by rw [← hr,List.map_drop,List.map_take]
  refine x_q hg hd hdn ?_ h
  rw [← e]
  exact q_slice (l:=l.map f) ho hx hv hlo hhi ht hs (lenf hsl) ha (by rw [List.length_map];exact hb) hmn (by rw [List.length_map];exact hn)
end
section
variable {nt b0 k k':Nat} {ops:List Oper} {W:Nat→Nat→Bool} {rest:List Oper} {env:List (Nat×V)} {heap:List (Nat×Option Blk)} {Q:St→Prop}
theorem p_beq {T yt:TypeId} {x y:Operand} {m n:Bool} {d:Nat} (ho:o.op = .binOp .eql T x y yt:=by rfl) (hx:opE (lk (looks ops o) env) x=some (.lit (.bool m)):=by rfl) (hy:opE (lk (looks ops o) env) y=some (.lit (.bool n)):=by rfl) (hT:P.underlying T=some .bool:=by rfl) (hg:guardV (lk (looks ops o) env) ops o.guard=some true:=by rfl) (hd:o.dst=some d:=by rfl) (hdn:Nat.blt d nt=true:=by rfl) (hk:k+1=k':=by (simp only [Nat.reduceAdd];rfl)) (hb:Nat.ble b0 k=true:=by rfl)
    (ht:m=n→PL P nt b0 ops W k' rest ((d,.lit (.bool true)) :: env) heap Q) (hf:¬ m=n→PL P nt b0 ops W k' rest ((d,.lit (.bool false)) :: env) heap Q):PL P nt b0 ops W k (o :: rest) env heap Q:=by
  have h:=fun N=>q_bool_eql (P:=P) (G:=[]) (st:=⟨lk (looks ops o) env,[],N,nt⟩) ho hx hy hT
  by_cases hp:m=n
  · simp only [decide_eq_true hp] at h;exact y_q hg hd hdn hb hk h (ht hp)
  · simp only [decide_eq_false hp] at h;exact y_q hg hd hdn hb hk h (hf hp)
theorem p_yes {f:FuncId} {xs:Array Operand} {ts:Array TypeId} {vs vs':List V} {p:Prop} {d:Nat} (hf:Fn P f vs' (.lit (.bool (yes p)))) (ho:o.op = .call { callee:=.value (.func f),args:=xs,argTypes:=ts }:=by rfl) (hg:guardV (lk (looks ops o) env) ops o.guard=some true:=by rfl) (hd:o.dst=some d:=by rfl) (hdn:Nat.blt d nt=true:=by rfl)
    (hx : argsE (lk (looks ops o) env) xs.toList = some vs := by rfl) (hbl : belowV.belowL 0 vs = true := by rfl) (hw : WkL vs vs' := by ((repeat' (first | exact WkL.nil | refine WkL.cons ?_ ?_ | exact Wk.refl _ | exact Wk.nil | refine Wk.agg ?_ | refine Wk.tup ?_)); first | done | fail "args")) (hk : k + 1 = k' := by (simp only [Nat.reduceAdd]; rfl)) (hb : Nat.ble b0 k = true := by rfl) (ht : p → PL P nt b0 ops W k' rest ((d, .lit (.bool true)) :: env) heap Q) (hff : ¬ p → PL P nt b0 ops W k' rest ((d, .lit (.bool false)) :: env) heap Q) : PL P nt b0 ops W k (o :: rest) env heap Q :=
  p_ask hf ho hg hd hdn hx hbl hw hk hb (fun h=>ht (yes_t.1 h)) (fun h=>hff (yes_f.1 h))
theorem p_nilc {x:Operand} {v:V} {d:Nat} (ho:o.op = .nilCheck x:=by rfl) (hx:opE (lk (looks ops o) env) x=some v:=by rfl) (hv:isPtr v=true:=by rfl) (hg:guardV (lk (looks ops o) env) ops o.guard=some true:=by rfl) (hd:o.dst=some d:=by rfl) (hdn:Nat.blt d nt=true:=by rfl) (hk:k+1=k':=by (simp only [Nat.reduceAdd];rfl)) (hb:Nat.ble b0 k=true:=by rfl)
    (h:PL P nt b0 ops W k' rest ((d,v) :: env) heap Q):PL P nt b0 ops W k (o :: rest) env heap Q:=y_q hg hd hdn hb hk (fun N=>q_nilcheck ho hx hv) h
theorem p_bstr {T U e:TypeId} {x:Operand} {v:V} {l:List UInt8} {d:Nat} (ho:o.op = .convert T U x:=by rfl) (hx:opE (lk (looks ops o) env) x=some v:=by rfl) (hv:srcV [] v=some (l.map encB):=by rfl) (hT:P.underlying T=some (.slice e):=by rfl) (he:P.underlying e=some (.int .u8):=by rfl) (hU:P.underlying U=some .string:=by rfl)
    (hg:guardV (lk (looks ops o) env) ops o.guard=some true:=by rfl) (hd:o.dst=some d:=by rfl) (hdn:Nat.blt d nt=true:=by rfl) (hk:k+1=k':=by (simp only [Nat.reduceAdd];rfl)) (hb:Nat.ble b0 k=true:=by rfl) (h:PL P nt b0 ops W k' rest ((d,.lit (.string (strB l))) :: env) heap Q):PL P nt b0 ops W k (o :: rest) env heap Q:=y_q hg hd hdn hb hk (fun N=>q_bstr ho hx hv hT he hU) h
theorem p_slice {α:Type} [Inhabited α] {f:α→List V} {t e s d:Nat} {x:Operand} {lo hi:Option Operand} {v:V} {l r:List α} {a b:Option Int} (m n:Nat) (ha:a.getD 0=(m:Int)) (hb':b.getD l.length=(n:Int)) (hmn:m≤n) (hn:n≤l.length) (hr:(l.take n).drop m=r)
    (ho:o.op = .slice t x lo hi none:=by rfl) (hx:opE (lk (looks ops o) env) x=some v:=by rfl) (hv:roV [] v=some (l.map f):=by rfl) (hlo:boundE (lk (looks ops o) env) lo=some a:=by rfl) (hhi:boundE (lk (looks ops o) env) hi=some b:=by rfl)
    (ht:P.underlying t=some (.slice e):=by rfl) (hs:sizeT P e=some s:=by rfl) (hsl:∀ x,(f x).length=s:=by intro x;rfl)
    (hg:guardV (lk (looks ops o) env) ops o.guard=some true:=by rfl) (hd:o.dst=some d:=by rfl) (hdn:Nat.blt d nt=true:=by rfl) (hk:k+1=k':=by (simp only [Nat.reduceAdd];rfl)) (hb:Nat.ble b0 k=true:=by rfl) (h:PL P nt b0 ops W k' rest ((d,.ro (r.map f)) :: env) heap Q):PL P nt b0 ops W k (o :: rest) env heap Q:=by
  have e:((l.map f).take n).drop m=r.map f:=by rw [← hr,List.map_drop,List.map_take]
  refine y_q hg hd hdn hb hk (fun N=>?_) h
  rw [← e]
  exact q_slice (l:=l.map f) ho hx hv hlo hhi ht hs (lenf hsl) ha (by rw [List.length_map];exact hb') hmn (by rw [List.length_map];exact hn)
end
end
end Go.Proofs.YtendheafcbickaaGreat
end
section
namespace Go.Proofs.YtendheafcbickaaGreat
open Go.RowKit
section
variable {P:Program} {G:List Nat} {o:Oper} {st:St} {n0:Nat}
def rowsV (s:Nat):Nat→List V→List (List V)
  | 0,_=>[]
  | n+1,cs=>cs.take s :: rowsV s n (cs.drop s)
def zerosV (z:List V):Nat→List V
  | 0=>[]
  | n+1=>z++zerosV z n
def sliceV (P:Program) (e len:Nat) (ps:List (Nat×List V)):Option (List (List V)):=
  match sizeT P e,zeroT P e with
  | some s,some z=>bif Nat.beq z.length s && Nat.blt 0 s then (match fillV (fun i=>some (i * s,s)) (zerosV z len) ps with
    | some cs=>some (rowsV s len cs)
    | none=>none) else none
  | _,_=>none
theorem rowsV_length (s:Nat):∀ (n:Nat) (cs:List V),(rowsV s n cs).length=n
  | 0,_=>rfl
  | n+1,cs=>by simp [rowsV,rowsV_length s n]
theorem rowsV_get (s:Nat):∀ (n:Nat) (cs:List V),cs.length=n * s → ∀ i,i<n→(eAt (rowsV s n cs) i).length=s ∧ ∀ j,j<s→cAt (eAt (rowsV s n cs) i) j=cAt cs (i * s+j)
  | 0,_,_,i,h=>by omega
  | n+1,cs,hl,i,hi=>by
    have hm:(n+1) * s=n * s+s:=Nat.succ_mul n s
    cases i with
    | zero=>
      have e:eAt (rowsV s (n+1) cs) 0=cs.take s:=rfl
      rw [e]
      refine ⟨by simp;omega,fun j hj=>?_⟩
      unfold cAt
      rw [List.getD_eq_getElem?_getD,List.getD_eq_getElem?_getD,List.getElem?_take,if_pos hj,Nat.zero_mul,Nat.zero_add]
    | succ i=>
      have e:eAt (rowsV s (n+1) cs) (i+1)=eAt (rowsV s n (cs.drop s)) i:=by simp [rowsV,eAt]
      rw [e]
      obtain ⟨h1,h2⟩:=rowsV_get s n (cs.drop s) (by simp;omega) i (by omega)
      refine ⟨h1,fun j hj=>?_⟩
      rw [h2 j hj,cAt_drop]
      congr 1
      rw [Nat.succ_mul];omega
theorem zeros_rel {ρ:Nat→Option Value} {S:Nat→Prop} {w:World} {z:List V} {zs:Array Value} (h:CRel ρ S w z zs) (h0:0<z.length) (n:Nat):CRel ρ S w (zerosV z n) ((Array.range (n * z.length)).map (zs[· % zs.size]!)):=by
  have hlen:∀ n,(zerosV z n).length=n * z.length:=by
    intro n
    induction n with
    | zero=>simp [zerosV]
    | succ n ih=>simp only [zerosV,List.length_append,ih];rw [Nat.succ_mul];omega
  have hc:∀ n j,j<n * z.length→cAt (zerosV z n) j=cAt z (j % z.length):=by
    intro n
    induction n with
    | zero=>intro j hj;omega
    | succ n ih=>
      intro j hj
      rw [Nat.succ_mul] at hj
      simp only [zerosV]
      unfold cAt
      rw [List.getD_eq_getElem?_getD,List.getElem?_append]
      split
      · rename_i hjz;rw [Nat.mod_eq_of_lt hjz,List.getD_eq_getElem?_getD]
      · rename_i hjz
        have:=ih (j - z.length) (by omega)
        unfold cAt at this
        rw [← List.getD_eq_getElem?_getD,this,Nat.mod_eq_sub_mod (by omega:j ≥ z.length)]
  refine ⟨by simp [hlen],fun j hj=>?_⟩
  rw [hlen] at hj
  have hm:j % z.length<z.length:=Nat.mod_lt _ h0
  have e:((Array.range (n * z.length)).map (zs[· % zs.size]!)).getD j undef=zs.getD (j % z.length) undef:=by
    rw [Array.getD_eq_getD_getElem?,Array.getElem?_map,Array.getElem?_range]
    simp only [hj,if_true,Option.map_some,Option.getD_some]
    rw [h.1,Array.getD_eq_getD_getElem?,getElem!_pos zs _ (by rw [h.1];exact hm),Array.getElem?_eq_getElem (by rw [h.1];exact hm)];rfl
  rw [hc n j hj,e]
  exact h.2 _ hm
theorem sliceV_spec {e len:Nat} {ps:List (Nat×List V)} {l:List (List V)} (h:sliceV P e len ps=some l):∃ s z cs,sizeT P e=some s∧zeroT P e=some z∧z.length=s∧0<s∧fillV (fun i=>some (i * s,s)) (zerosV z len) ps=some cs∧l=rowsV s len cs:=by
  unfold sliceV at h
  split at h
  · rename_i s z hs hz
    cases hb:(Nat.beq z.length s && Nat.blt 0 s) with
    | false=>rw [hb] at h;cases h
    | true=>
      rw [hb] at h
      simp only [cond_true] at h
      simp only [Bool.and_eq_true] at hb
      split at h
      · rename_i cs hcs
        injection h with h
        exact ⟨s,z,cs,hs,hz,Nat.eq_of_beq_eq_true hb.1,Nat.le_of_ble_eq_true hb.2,hcs,h.symm⟩
      · cases h
  · cases h
theorem build_slice {t e len s:Nat} {parts:Array (Nat×Operand)} {ps:List (Nat×List V)} {z cs:List V} {F:Nat→Prop} {base:Nat→Prop} {ρ:Nat→Option Value} {w0 w:World} {a:Act}
    (hH:HRel F base ρ st.heap st.next w0 w) (hE:ERel ρ (Stab F ρ st.heap) w st.nt st.env a) (ht:P.underlying t=some (.slice e)) (hs:sizeT P e=some s) (hz:zeroT P e=some z) (hzl:z.length=s) (h0:0<s) (hlen:0<len) (hsm:len * s≤2 ^ 24) (hp:partsE st.env parts.toList=some ps) (hf:fillV (fun i=>some (i * s,s)) (zerosV z len) ps=some cs) :
    ∃ us:Array Value,(Instr.buildSlice t len (parts.map fun (i,x)=>(i,a.eval x))).run P w = .ok (.slice (some ⟨w.heap.size,0,none⟩) len len) (w.alloc (.cells us e))∧CRel ρ (Stab F ρ st.heap) w cs us∧cs.length=len * s:=by
  obtain ⟨zv,rfl,hz2,hz3⟩:=zeroT_spec hz
  obtain ⟨e1,e2⟩:=partsE_spec hE (fun id x h=>(hH.sup id x h).2) hp
  have hzr:CRel ρ (Stab F ρ st.heap) w (zv.cells.toList.map .lit) zv.cells:=lits_rel hz2
  have hzz:=zeros_rel hzr (by omega) len
  rw [hzl] at hzz
  obtain ⟨cells',g1,g2⟩:=fill_rel (place:=fun i=>some (i * s,s)) ps _ _ _ cs hzz e1 e2 hf
  unfold sizeT at hs
  cases hi:P.info? e with
  | none=>rw [hi] at hs;cases hs
  | some ie=>
    rw [hi] at hs
    simp only [Option.map_some,Option.some.injEq] at hs
    have hiz:ie.zero=some zv:=by
      have h3:=hz3 w
      simp [zeroValue,typeInfo,hi,Sem.run_bind,Sem.run_pure,program,Sem.run] at h3
      cases hzo:ie.zero with
      | none=>rw [hzo] at h3;cases h3
      | some z'=>rw [hzo] at h3;injection h3 with h3 _;rw [h3]
    subst hs
    have hm:0<len * ie.size:=Nat.mul_pos hlen h0
    have hlenV:∀ n,(zerosV (zv.cells.toList.map V.lit) n).length=n * ie.size:=by
      intro n
      induction n with
      | zero=>simp [zerosV]
      | succ n ih=>simp only [zerosV,List.length_append,ih,hzl];rw [Nat.succ_mul];omega
    have hfl:∀ (pl:Nat→Option (Nat×Nat)) (ps:List (Nat×List V)) (c r:List V),fillV pl c ps=some r→r.length=c.length:=by
      intro pl ps
      induction ps with
      | nil=>intro c r h;simp only [fillV,Option.some.injEq] at h;rw [h]
      | cons p ps ih=>
        intro c r h
        obtain ⟨i,v⟩:=p
        simp only [fillV] at h
        split at h
        · cases h
        · rename_i off size _
          cases hb:(Nat.beq v.length size && Nat.ble (off+v.length) c.length) with
          | false=>rw [hb] at h;cases h
          | true=>rw [hb] at h;rw [ih _ _ h,length_setAt]
    exact ⟨cells',run_buildSlice w t e len _ cells' ie zv ht hi hiz (by omega) (by omega) (by rw [Array.toList_map];exact g1),g2,by rw [hfl _ _ _ _ hf,hlenV]⟩
theorem all_pure {l:List (List V)} (h:l.all (fun cs=>cs.all pureV)=true) {i j:Nat} (hi:i<l.length) (hj:j<(eAt l i).length):pureV (cAt (eAt l i) j)=true:=by
  rw [List.all_eq_true] at h
  have h1:=h (eAt l i) (by unfold eAt;rw [List.getD_eq_getElem?_getD,List.getElem?_eq_getElem hi];exact List.getElem_mem hi)
  rw [List.all_eq_true] at h1
  refine h1 _ ?_
  unfold cAt;rw [List.getD_eq_getElem?_getD,List.getElem?_eq_getElem hj];exact List.getElem_mem hj
theorem alloc_cell {w:World} {us:Array Value} {e:TypeId} {i:Nat} (h:i<us.size):(w.alloc (.cells us e)).cell? ⟨w.heap.size,i,none⟩=some (us.getD i undef):=by
  have:=alloc_cells w us e
  unfold World.cell?
  simp only [this,Option.isSome_none,Bool.false_eq_true,if_false]
  rw [Array.getElem?_eq_getElem h]
  simp [h]
theorem g_lit {t e len d:Nat} {parts:Array (Nat×Operand)} {ps:List (Nat×List V)} {l:List (List V)} (ho:o.op = .buildSlice t len parts) (hd:o.dst=some d) (hdn:Nat.blt d st.nt=true) (ht:P.underlying t=some (.slice e)) (hp:partsE st.env parts.toList=some ps) (hl:sliceV P e len ps=some l) (hpu:l.all (fun cs=>cs.all pureV)=true) (hlen:Nat.blt 0 len=true) (hsm:Nat.ble (len * (sizeT P e).getD 0) 16777216=true) :
    GStep P n0 o st { st with env:=(d,.ro l) :: st.env }:=fun F base w0 ρ a w hH hE=>by
  obtain ⟨s,z,cs,hs,hz,hzl,h0,hf,rfl⟩:=sliceV_spec hl
  rw [hs] at hsm
  obtain ⟨us,hrun,hc,hcl⟩:=build_slice hH hE ht hs hz hzl h0 (Nat.le_of_ble_eq_true hlen) (Nat.le_of_ble_eq_true hsm) hp hf
  refine wp_of_value (u:=.slice (some ⟨w.heap.size,0,none⟩) len len) (w':=w.alloc (.cells us e)) ?_ ?_
  · unfold execOp;rw [ho]
    simp only [Sem.run_bind,hrun];rfl
  · rw [hd]
    have hb:=below_alloc w (.cells us e)
    have hsame:Same (Stab F ρ st.heap) w (w.alloc (.cells us e)):=fun b _ hlt=>hb.block b hlt
    refine ⟨ρ,hH.grow hb,(hE.mono hsame (fun b h _=>h) (fun _ _ h=>h)).put (Nat.le_of_ble_eq_true hdn) (.pure ?_),fun _ _ h=>h,fun _ _=>rfl⟩
    have hr:=rowsV_get s len cs hcl
    have hlr:=rowsV_length s len cs
    have h24:len≤16777216:=Nat.le_trans (Nat.le_mul_of_pos_right len h0) (Nat.le_of_ble_eq_true hsm)
    have:=PRel.ro (S:=Stab F ρ st.heap) (w:=w.alloc (.cells us e)) (rowsV s len cs) (some ⟨w.heap.size,0,none⟩) len s w.heap.size 0 (fun i j=>us.getD (i * s+j) undef) (by rw [hlr];exact Nat.le_refl _) (by unfold maxLen;omega) h0 (fun _=>⟨rfl,stab_new hH (Nat.le_refl _)⟩)
      (fun i hi=>(hr i (by rw [hlr] at hi;exact hi)).1)
      (fun i j hi hj=>by
        rw [hlr] at hi
        have h1:(i+1) * s≤len * s:=Nat.mul_le_mul_right s hi
        have h2:(i+1) * s=i * s+s:=Nat.succ_mul i s
        rw [Nat.zero_add]
        exact alloc_cell (by rw [hc.1,hcl];omega))
      (fun i j hi hj=>by
        have hi2:=hi
        rw [hlr] at hi
        have h1:(i+1) * s≤len * s:=Nat.mul_le_mul_right s hi
        have h2:(i+1) * s=i * s+s:=Nat.succ_mul i s
        have hpp:=all_pure hpu hi2 (by rw [(hr i hi).1];exact hj)
        rw [(hr i hi).2 j hj] at hpp ⊢
        exact pure_rel ((hc.2 (i * s+j) (by rw [hcl];omega)).1.mono hsame (fun b h _=>h) (fun _ _ h=>h)) hpp)
    rwa [hlr] at this
theorem a_lit {k t e len d:Nat} {parts:Array (Nat×Operand)} {ps:List (Nat×List V)} {l:List (List V)} (ho:o.op = .buildSlice t len parts) (hd:o.dst=some d) (hdn:Nat.blt d st.nt=true) (ht:P.underlying t=some (.slice e)) (hp:partsE st.env parts.toList=some ps) (hl:sliceV P e len ps=some l) (hpu:l.all (fun cs=>cs.all pureV)=true) (hlen:Nat.blt 0 len=true) (hsm:Nat.ble (len * (sizeT P e).getD 0) 16777216=true) :
    GAt P k o st (st.newAt k d (.own k) (.row e ((sizeT P e).getD 0) l)):=fun F base w0 ρ a w hH hE hnn hk=>by
  obtain ⟨s,z,cs,hs,hz,hzl,h0,hf,rfl⟩:=sliceV_spec hl
  rw [hs] at hsm
  obtain ⟨us,hrun,hc,hcl⟩:=build_slice hH hE ht hs hz hzl h0 (Nat.le_of_ble_eq_true hlen) (Nat.le_of_ble_eq_true hsm) hp hf
  refine wp_of_value (u:=.slice (some ⟨w.heap.size,0,none⟩) len len) (w':=w.alloc (.cells us e)) ?_ ?_
  · unfold execOp;rw [ho]
    simp only [Sem.run_bind,hrun];rfl
  · rw [hd]
    have hr:=rowsV_get s len cs hcl
    have hlr:=rowsV_length s len cs
    have h24:len≤16777216:=Nat.le_trans (Nat.le_mul_of_pos_right len h0) (Nat.le_of_ble_eq_true hsm)
    refine next_new hH hE hnn hk (below_alloc _ _) (fun _ b hb=>by simp only [blockOf,Option.some.injEq] at hb;omega) (Nat.le_of_ble_eq_true hdn) rfl (fun S hS _ hsame=>?_) (fun S=>.own (upd_same _ _ _))
    rw [hs]
    refine ⟨h0,_,us.toList,upd_same _ _ _,⟨⟨by rw [hlr,Array.length_toList,hc.1,hcl];rfl,.inr ⟨w.heap.size,len,us,by rw [hlr],Nat.zero_le _,alloc_cells _ _ _,by rw [hlr];exact Nat.le_refl _,by unfold maxLen;omega,by rw [hc.1,hcl];rfl,?_⟩⟩,fun b hb=>?_⟩,fun i hi=>(hr i (by rw [hlr] at hi;exact hi)).1,fun i j hi hj=>?_⟩
    · rw [hlr,List.take_of_length_le]
      rw [Array.length_toList,hc.1,hcl];exact Nat.le_refl _
    · simp only [blockOf,Option.some.injEq] at hb;exact hH.hbase b (by omega)
    · have hi2:=hi
      rw [hlr] at hi
      have h1:(i+1) * s≤len * s:=Nat.mul_le_mul_right s hi
      have h2:(i+1) * s=i * s+s:=Nat.succ_mul i s
      have hj:j<s:=hj
      have hpp:=all_pure hpu hi2 (by rw [(hr i hi).1];exact hj)
      rw [(hr i hi).2 j hj] at hpp
      have hcc:=hc.2 (i * s+j) (by rw [hcl];omega)
      refine ⟨us.getD (i * s+j) undef,?_,?_,hcc.2⟩
      · show us.toList[i * s+j]? = _
        rw [Array.getElem?_toList,Array.getElem?_eq_getElem (by rw [hc.1,hcl];omega),Array.getD_eq_getD_getElem?,Array.getElem?_eq_getElem (by rw [hc.1,hcl];omega)];rfl
      · rw [(hr i hi).2 j hj]
        exact (pure_rel hcc.1 hpp).mono hsame hS
def eqP (P:Program) (xs ys:List V):List Field→Option Prop
  | []=>some True
  | f :: fs=>match P.underlying f.type,xs[f.offset]?,ys[f.offset]?,eqP P xs ys fs with
    | some (.int _),some (.lit (.int k m)),some (.lit (.int k' n)),some p=>bif decide (k=k') then some (m=n∧p) else none
    | some .bool,some (.lit (.bool m)),some (.lit (.bool n)),some p=>some (m=n∧p)
    | some .string,some (.lit (.string m)),some (.lit (.string n)),some p=>some (m=n∧p)
    | _,_,_,_=>none
theorem eqP_spec {ρ:Nat→Option Value} {S:Nat→Prop} {w:World} {xs ys:List V} {us vs:Array Value} (hx:us.size=xs.length ∧ ∀ j,j<xs.length→VRel ρ S w (cAt xs j) (us.getD j undef)) (hy:vs.size=ys.length ∧ ∀ j,j<ys.length→VRel ρ S w (cAt ys j) (vs.getD j undef)) (d:Nat) :
    ∀ (fs : List Field) (p : Prop), eqP P xs ys fs = some p → fs.all (fun f => !(f.name == "_")) = true → ∃ b : Bool, (b = true ↔ p) ∧ ∀ w', (Op.eqFields (d + 1) us vs fs).run P w' = .ok b w'
  | [],p,h,_=>by
    simp only [eqP,Option.some.injEq] at h
    subst h
    exact ⟨true,by simp,fun w'=>by simp [Op.eqFields,Sem.run_pure]⟩
  | f :: fs,p,h,hn=>by
    simp only [List.all_cons,Bool.and_eq_true] at hn
    have hne : f.name ≠ "_" := by
      have:=hn.1
      simpa using this
    have get:∀ {zs:List V} {ws:Array Value} {u:Value},(ws.size=zs.length ∧ ∀ j,j<zs.length→VRel ρ S w (cAt zs j) (ws.getD j undef))→zs[f.offset]? = some (.lit u)→ws[f.offset]? = some u:=by
      intro zs ws u hz h
      have hlt:=(List.getElem?_eq_some_iff.1 h).1
      have:=hz.2 _ hlt
      have e:cAt zs f.offset = .lit u:=by unfold cAt;rw [List.getD_eq_getElem?_getD,h];rfl
      rw [e] at this
      have:=lit_inv this
      rw [Array.getD_eq_getD_getElem?,Array.getElem?_eq_getElem (by omega)] at this
      rw [Array.getElem?_eq_getElem (by omega)]
      simpa using this
    have hpart:∀ {zs:Array Value} {u:Value} {w':World},aggT P f.type=some false→zs[f.offset]? = some u→(part f.type zs f.offset).run P w' = .ok u w':=by
      intro zs u w' ha hz
      simp [part,run_aggT ha,Sem.run_bind,hz,Sem.run_pure]
    simp only [eqP] at h
    split at h
    · rename_i k0 k m k' n q hu h1 h2 hq
      cases hk:decide (k=k') with
      | false=>rw [hk] at h;cases h
      | true=>
        rw [hk] at h
        simp only [cond_true,Option.some.injEq] at h
        have hk:=of_decide_eq_true hk
        subst hk;subst h
        obtain ⟨b,hb,hr⟩:=eqP_spec hx hy d fs q hq hn.2
        have ha:aggT P f.type=some false:=by unfold aggT;rw [hu]
        refine ⟨decide (m=n) && b,by rw [Bool.and_eq_true,decide_eq_true_eq,hb],fun w'=>?_⟩
        have he:=run_equalIn_int (P:=P) w' d f.type k k0 m n hu
        rw [beq_dec] at he
        simp only [Op.eqFields,if_pos hne,Sem.run_bind,hpart ha (get hx h1),hpart ha (get hy h2),Result.andThen_ok,he]
        by_cases hmn:m=n
        · simp [hmn,hr]
        · simp [hmn,Sem.run_pure]
    · rename_i m n q hu h1 h2 hq
      injection h with h;subst h
      obtain ⟨b,hb,hr⟩:=eqP_spec hx hy d fs q hq hn.2
      have ha:aggT P f.type=some false:=by unfold aggT;rw [hu]
      refine ⟨decide (m=n) && b,by rw [Bool.and_eq_true,decide_eq_true_eq,hb],fun w'=>?_⟩
      have he:=run_equalIn_bool (P:=P) w' d f.type m n hu
      have e:(m == n)=decide (m=n):=by cases m <;> cases n <;> rfl
      rw [e] at he
      simp only [Op.eqFields,if_pos hne,Sem.run_bind,hpart ha (get hx h1),hpart ha (get hy h2),Result.andThen_ok,he]
      by_cases hmn:m=n
      · simp [hmn,hr]
      · simp [hmn,Sem.run_pure]
    · rename_i m n q hu h1 h2 hq
      injection h with h;subst h
      obtain ⟨b,hb,hr⟩:=eqP_spec hx hy d fs q hq hn.2
      have ha:aggT P f.type=some false:=by unfold aggT;rw [hu]
      refine ⟨decide (m=n) && b,by rw [Bool.and_eq_true,decide_eq_true_eq,hb],fun w'=>?_⟩
      have he:=run_equalIn_string (P:=P) w' d f.type m n hu
      rw [ba_eq] at he
      simp only [Op.eqFields,if_pos hne,Sem.run_bind,hpart ha (get hx h1),hpart ha (get hy h2),Result.andThen_ok,he]
      by_cases hmn:m=n
      · simp [hmn,hr]
      · simp [hmn,Sem.run_pure]
    · cases h
theorem agg_inv {ρ:Nat→Option Value} {S:Nat→Prop} {w:World} {cs:List V} {u:Value} (h:VRel ρ S w (.agg cs) u):∃ us,u = .agg us∧us.size=cs.length ∧ ∀ j,j<cs.length→VRel ρ S w (cAt cs j) (us.getD j undef):=by
  cases h with
  | pure h=>cases h
  | agg hn h=>exact ⟨_,rfl,hn,h⟩
theorem q_struct_eql {T yt:TypeId} {x y:Operand} {xs ys:List V} {fs:Array Field} {p:Prop} (ho:o.op = .binOp .eql T x y yt) (hx:opE st.env x=some (.agg xs)) (hy:opE st.env y=some (.agg ys)) (hT:P.underlying T=some (.struct fs)) (hp:eqP P xs ys fs.toList=some p)
    (hn : fs.toList.all (fun f => !(f.name == "_")) = true) (hs : P.stoodInHeld T = false) (hm : P.eqGuardType P.depth T = false) : (p → QStep P G o st (.lit (.bool true))) ∧ (¬ p → QStep P G o st (.lit (.bool false))) := by
  have hf:P.fieldsOf T=fs:=by unfold Program.fieldsOf;rw [hT]
  have key:∀ bb:Bool,(bb=true ↔ p)→QStep P G o st (.lit (.bool bb)):=fun bb hbb=>q_of_run fun F base w0 ρ a w hH hE=>by
    refine ⟨_,.pure (.lit _ rfl),fun w'=>?_⟩
    obtain ⟨us,e1,e2,e3⟩:=agg_inv (opE_sound hE hx)
    obtain ⟨vs,f1,f2,f3⟩:=agg_inv (opE_sound hE hy)
    obtain ⟨b,hb,hr⟩:=eqP_spec (P:=P) ⟨e2,e3⟩ ⟨f2,f3⟩ 9998 fs.toList p hp hn
    have hbe:b=bb:=by rw [Bool.eq_iff_iff,hb,hbb]
    unfold execOp;rw [ho];simp only [];rw [e1,f1]
    have h1:=run_eqGuard_agg (P:=P) w' .eql T x y us vs hm
    have h2:=run_eql_struct (P:=P) w' T us vs
    rw [run_equalIn_agg w' 9999 T us vs (by rw [hf];exact hT) hs,hf,hr] at h2
    simp only [Sem.run_bind,h1,Result.andThen_ok,h2,hbe];rfl
  exact ⟨fun h=>key true (by simp [h]),fun h=>key false (by simp [h])⟩
section
variable {ops:List Oper} {rest:List Oper} {env:List (Nat×V)} {heap:List (Nat×Option Blk)} {next nt:Nat} {Q:St→Prop}
inductive NormL:List (List V)→List (List V)→Prop
  | nil:NormL [] []
  | cons {c d:List V} {cs ds:List (List V)} (h:Norm c d) (hs:NormL cs ds):NormL (c :: cs) (d :: ds)
theorem NormL.eq {cs ds:List (List V)} (h:NormL cs ds):cs=ds:=by
  induction h with
  | nil=>rfl
  | cons h hs ih=>rw [h.eq,ih]
theorem s_quo {T yt:TypeId} {x y:Operand} {k:IntKind} {m n:Int} {d:Nat} (ho:o.op = .binOp .quo T x y yt:=by rfl) (hx:opE env x=some (.lit (.int k m)):=by rfl) (hy:opE env y=some (.lit (.int k n)):=by rfl) (hm:0≤m:=by omega) (hn:0<n:=by omega) (hw:k.wrap (m / n)=m / n:=by first|(rw [IntKind.wrap_i64];omega)|(rw [IntKind.wrap_u64];omega)|(rw [IntKind.wrap_u8];omega)) (hg:guardV env ops o.guard=some true:=by rfl) (hd:o.dst=some d:=by rfl) (hdn:Nat.blt d nt=true:=by rfl)
    (h:RunL P n0 ops.toArray rest ⟨(d,.lit (.int k (m / n))) :: env,heap,next,nt⟩ Q):RunL P n0 ops.toArray (o :: rest) ⟨env,heap,next,nt⟩ Q:=by
  have:=q_quo (P:=P) (G:=[]) (st:=⟨env,heap,next,nt⟩) ho hx hy (by omega)
  rw [Int.tdiv_eq_ediv_of_nonneg hm,hw] at this
  exact x_q hg hd hdn this h
theorem s_eqs {T yt:TypeId} {x y:Operand} {xs ys:List V} {fs:Array Field} {p:Prop} {d:Nat} (ho:o.op = .binOp .eql T x y yt:=by rfl) (hx:opE env x=some (.agg xs):=by rfl) (hy:opE env y=some (.agg ys):=by rfl) (hT:P.underlying T=some (.struct fs):=by rfl) (hp:eqP P xs ys fs.toList=some p:=by rfl) (hg:guardV env ops o.guard=some true:=by rfl) (hd:o.dst=some d:=by rfl) (hdn:Nat.blt d nt=true:=by rfl)
    (hn : fs.toList.all (fun f => !(f.name == "_")) = true := by kernel_rfl) (hs : P.stoodInHeld T = false := by kernel_rfl) (hm : P.eqGuardType P.depth T = false := by kernel_rfl)
    (ht:p→RunL P n0 ops.toArray rest ⟨(d,.lit (.bool true)) :: env,heap,next,nt⟩ Q) (hf:¬ p→RunL P n0 ops.toArray rest ⟨(d,.lit (.bool false)) :: env,heap,next,nt⟩ Q):RunL P n0 ops.toArray (o :: rest) ⟨env,heap,next,nt⟩ Q:=by
  have h:=q_struct_eql (P:=P) (G:=[]) (st:=⟨env,heap,next,nt⟩) ho hx hy hT hp hn hs hm
  by_cases hp:p
  · exact x_q hg hd hdn (h.1 hp) (ht hp)
  · exact x_q hg hd hdn (h.2 hp) (hf hp)
theorem s_lit {t e len d:Nat} {parts:Array (Nat×Operand)} {ps:List (Nat×List V)} {l l':List (List V)} (ho:o.op = .buildSlice t len parts:=by rfl) (ht:P.underlying t=some (.slice e):=by rfl) (hp:partsE env parts.toList=some ps:=by rfl) (hl:sliceV P e len ps=some l:=by rfl) (hN:NormL l l':=by repeat' (first|exact NormL.nil|apply NormL.cons|exact Norm.nil|apply Norm.cons)) (hpu:l'.all (fun cs=>cs.all pureV)=true:=by rfl) (hg:guardV env ops o.guard=some true:=by rfl) (hd:o.dst=some d:=by rfl) (hdn:Nat.blt d nt=true:=by rfl) (hlen:Nat.blt 0 len=true:=by rfl) (hsm:Nat.ble (len * (sizeT P e).getD 0) 16777216=true:=by rfl)
    (h:RunL P n0 ops.toArray rest ⟨(d,.ro l') :: env,heap,next,nt⟩ Q):RunL P n0 ops.toArray (o :: rest) ⟨env,heap,next,nt⟩ Q:=by
  have e:=hN.eq
  subst e
  exact l_g hg (g_lit (st:=⟨env,heap,next,nt⟩) ho hd hdn ht hp hl hpu hlen hsm) h
theorem s_row {t e len d s:Nat} {parts:Array (Nat×Operand)} {ps:List (Nat×List V)} {l l':List (List V)} (ho:o.op = .buildSlice t len parts:=by rfl) (ht:P.underlying t=some (.slice e):=by rfl) (hs:(sizeT P e).getD 0=s:=by rfl) (hp:partsE env parts.toList=some ps:=by rfl) (hl:sliceV P e len ps=some l:=by rfl) (hN:NormL l l':=by repeat' (first|exact NormL.nil|apply NormL.cons|exact Norm.nil|apply Norm.cons)) (hpu:l'.all (fun cs=>cs.all pureV)=true:=by rfl) (hg:guardV env ops o.guard=some true:=by rfl) (hd:o.dst=some d:=by rfl) (hdn:Nat.blt d nt=true:=by rfl) (hn0:Nat.ble n0 next=true:=by rfl) (hlen:Nat.blt 0 len=true:=by rfl) (hsm:Nat.ble (len * (sizeT P e).getD 0) 16777216=true:=by rfl)
    (h:RunL P n0 ops.toArray rest ⟨(d,.own next) :: env,(next,some (.row e s l')) :: heap,next+1,nt⟩ Q):RunL P n0 ops.toArray (o :: rest) ⟨env,heap,next,nt⟩ Q:=by
  have e:=hN.eq
  subst e
  subst hs
  exact l_g hg (gstep_of_at (Nat.le_of_ble_eq_true hn0) (a_lit (st:={ env:=env,heap:=heap,next:=next+1,nt:=nt }) ho hd hdn ht hp hl hpu hlen hsm)) h
end
end
end Go.Proofs.YtendheafcbickaaGreat
end
section
namespace Go.Proofs.YtendheafcbickaaGreat
open Go.RowKit
section
variable {P:Program} {G:List Nat} {o:Oper} {st:St} {n0:Nat}
theorem g_bytes {T U e:TypeId} {x:Operand} {l:List UInt8} {d:Nat} (ho:o.op = .convert T U x) (hd:o.dst=some d) (hdn:Nat.blt d st.nt=true) (hx:opE st.env x=some (.lit (.string (strB l)))) (hT:P.underlying T=some .string) (hU:P.underlying U=some (.slice e)) (he:P.underlying e=some (.int .u8)) (h63:l.length≤140737488355328) :
    GStep P n0 o st { st with env:=(d,.ro (l.map encB)) :: st.env }:=fun F base w0 ρ a w hH hE=>by
  have hrun:=run_bytes_of_string (P:=P) w T U e (strB l) hT hU he
  have hsz:(strB l).size=l.length:=strB_size l
  generalize hcap:grownCap w (strB l).size 0 e=cap at hrun
  have hge:l.length≤cap:=by rw [← hcap,← hsz];exact grownCap_ge w _ 0 e
  have hmx:cap≤maxLen:=by rw [← hcap];exact grownCap_le_maxLen w _ 0 e (by unfold maxLen;omega)
  rw [hsz] at hrun
  have hcell:∀ i,i<l.length→(bytesRow (strB l) cap).getD i undef = .int .u8 ((l.getD i default).toNat:Int):=fun i hi=>by
    unfold bytesRow
    rw [Array.getD_eq_getD_getElem?,Array.getElem?_append_left (by simp [strB,hi]),Array.getElem?_map]
    have:(strB l).data[i]? = some (l.getD i default):=by
      simp only [strB,List.getElem?_toArray,List.getElem?_eq_getElem hi,List.getD_eq_getElem?_getD,Option.getD_some]
    rw [this];rfl
  have hrl:l.length≤(bytesRow (strB l) cap).size:=by unfold bytesRow;simp [strB]
  generalize bytesRow (strB l) cap=R at hrun hcell hrl
  generalize (R.size,R.size+1)=fz at hrun
  have hb:Below w.heap.size w (w.drew.alloc (.cells R e fz)):=by
    have:=below_alloc w.drew (.cells R e fz)
    exact ⟨this.os,this.tape,this.output,this.size,this.block⟩
  have hnew:(w.drew.alloc (.cells R e fz)).heap[w.heap.size]? = some (.cells R e fz):=heap_alloc_new w.drew _
  have hsame:Same (Stab F ρ st.heap) w (w.drew.alloc (.cells R e fz)):=fun b _ hlt=>hb.block b hlt
  refine wp_of_value (u:=.slice (some ⟨w.heap.size,0,none⟩) l.length cap) (w':=w.drew.alloc (.cells R e fz)) ?_ ?_
  · unfold execOp;rw [ho];simp only [];rw [lit_inv (opE_sound hE hx)]
    simp only [Sem.run_bind,hrun];rfl
  · rw [hd]
    refine ⟨ρ,hH.grow hb,(hE.mono hsame (fun b h _=>h) (fun _ _ h=>h)).put (Nat.le_of_ble_eq_true hdn) (.pure ?_),fun _ _ h=>h,fun _ _=>rfl⟩
    have:=PRel.ro (S:=Stab F ρ st.heap) (w:=w.drew.alloc (.cells R e fz)) (l.map encB) (some ⟨w.heap.size,0,none⟩) cap 1 w.heap.size 0 (fun i j=>.int .u8 ((l.getD i default).toNat:Int)) (by rw [List.length_map];exact hge) hmx (by omega) (fun _=>⟨rfl,stab_new hH (Nat.le_refl _)⟩) len1
      (fun i j hi hj=>by
        rw [List.length_map] at hi
        have hj0:j=0:=by omega
        subst hj0
        rw [Nat.mul_one,Nat.add_zero,Nat.zero_add]
        unfold World.cell?
        simp only [hnew,Option.isSome_none,Bool.false_eq_true,if_false]
        have:=hcell i hi
        rw [Array.getD_eq_getD_getElem?,Array.getElem?_eq_getElem (by omega)] at this
        rw [Array.getElem?_eq_getElem (by omega)]
        simpa using this)
      (fun i j hi hj=>by
        rw [List.length_map] at hi
        have hj0:j=0:=by omega
        subst hj0
        rw [eAt_map encB hi]
        exact .lit _ rfl)
    rwa [List.length_map] at this
theorem a_make {k:Nat} {t e d n by_:Nat} {x y:Operand} {kl kc:IntKind} {m1 m2:Int} {z:Value} (ho:o.op = .makeSlice t x y) (hd:o.dst=some d) (hdn:Nat.blt d st.nt=true) (hx:opE st.env x=some (.lit (.int kl m1))) (hy:opE st.env y=some (.lit (.int kc m2))) (h1:m1=(n:Int)) (h2:m2=(n:Int))
    (ht:P.underlying t=some (.slice e)) (hs:sizeT P e=some 1) (hb:bytesT P e=some by_) (hz:zeroT P e=some [.lit z]) (hby:by_ * n≤281474976710656) (h63:n≤9223372036854775807):GAt P k o st (st.newAt k d (.own k) (.row e 1 (List.replicate n [.lit z]))):=fun F base w0 ρ a w hH hE hnn hk=>by
  subst h1 h2
  obtain ⟨i,zv,hi,hz1,hsz,hbb,hzs⟩:=elem_info hs hb ⟨_,hz,rfl⟩
  obtain ⟨zv',e1,e2,e3⟩:=zeroT_spec hz
  have hzz:zv' = zv:=by
    have h3:=e3 w
    simp [zeroValue,typeInfo,hi,hz1,Sem.run_bind,Sem.run_pure,program,Sem.run] at h3
    exact h3.symm
  subst hzz
  have hcells:zv'.cells = #[z]:=by
    apply Array.toList_inj.1
    generalize zv'.cells.toList=L at e1
    match L,e1 with
    | [u],e1=>injection e1 with e1;injection e1 with e1;rw [e1]
  have hone:z.oneCell' = true:=by
    rw [hcells] at e2;simpa using e2
  have hb':(i.bytes:Int) * (n:Int)≤281474976710656:=by
    rw [hbb]
    have h:((by_ * n:Nat):Int)≤281474976710656:=by omega
    rwa [Int.natCast_mul] at h
  have hr:=run_make (P:=P) w t e i zv' ht hi hz1 kl kc n n (by omega) (Int.le_refl _) hb' (by omega)
  rw [Int.toNat_natCast,hsz,Nat.mul_one,hcells] at hr
  have hmc:∀ j,j<n→(madeCells #[z] n).getD j undef=z:=fun j hj=>by
    have hj1:j % 1=0:=Nat.mod_one j
    simp [madeCells,hj,hj1]
  refine wp_of_value (u:=.slice (some ⟨w.heap.size,0,none⟩) n n) (w':=w.alloc (.cells (madeCells #[z] n) e)) ?_ ?_
  · unfold execOp;rw [ho];simp only [];rw [lit_inv (opE_sound hE hx),lit_inv (opE_sound hE hy)]
    simp only [Sem.run_bind,hr];rfl
  · rw [hd]
    refine next_new hH hE hnn hk (below_alloc _ _) (fun _ b hb=>by simp only [blockOf,Option.some.injEq] at hb;omega) (Nat.le_of_ble_eq_true hdn) rfl (fun S hS _ hsame=>?_) (fun S=>.own (upd_same _ _ _))
    have hms:=size_madeCells #[z] n
    have he:∀ i,i<n→eAt (List.replicate n [V.lit z]) i=[V.lit z]:=fun i hi=>by
      unfold eAt;rw [List.getD_eq_getElem?_getD,List.getElem?_replicate,if_pos hi];rfl
    refine ⟨by omega,_,(madeCells #[z] n).toList,upd_same _ _ _,⟨⟨by rw [List.length_replicate,Array.length_toList,hms];omega,.inr ⟨w.heap.size,n,madeCells #[z] n,by rw [List.length_replicate],Nat.zero_le _,alloc_cells _ _ _,by rw [List.length_replicate];exact Nat.le_refl _,by unfold maxLen;omega,by rw [hms];omega,?_⟩⟩,fun b hb=>?_⟩,fun i hi=>?_,fun i j hi hj=>?_⟩
    · rw [List.length_replicate,List.take_of_length_le]
      rw [Array.length_toList,hms];omega
    · simp only [blockOf,Option.some.injEq] at hb;exact hH.hbase b (by omega)
    · rw [List.length_replicate] at hi;rw [he i hi];rfl
    · rw [List.length_replicate] at hi
      have hj0:j=0:=by omega
      subst hj0
      rw [he i hi]
      refine ⟨z,?_,.lit z hone,hone⟩
      have:=hmc i hi
      rw [Array.getD_eq_getD_getElem?,Array.getElem?_eq_getElem (by rw [hms];exact hi)] at this
      rw [Nat.mul_one,Nat.add_zero,Array.getElem?_toList,Array.getElem?_eq_getElem (by rw [hms];exact hi)]
      simpa using this
section
variable {ops:List Oper} {rest:List Oper} {env:List (Nat×V)} {heap:List (Nat×Option Blk)} {next nt:Nat} {Q:St→Prop}
theorem s_bytes {T U e:TypeId} {x:Operand} {l:List UInt8} {d:Nat} (ho:o.op = .convert T U x:=by rfl) (hx:opE env x=some (.lit (.string (strB l))):=by rfl) (hT:P.underlying T=some .string:=by rfl) (hU:P.underlying U=some (.slice e):=by rfl) (he:P.underlying e=some (.int .u8):=by rfl) (h63:l.length≤140737488355328:=by omega) (hg:guardV env ops o.guard=some true:=by rfl) (hd:o.dst=some d:=by rfl) (hdn:Nat.blt d nt=true:=by rfl)
    (h:RunL P n0 ops.toArray rest ⟨(d,.ro (l.map encB)) :: env,heap,next,nt⟩ Q):RunL P n0 ops.toArray (o :: rest) ⟨env,heap,next,nt⟩ Q:=
  l_g hg (g_bytes (st:=⟨env,heap,next,nt⟩) ho hd hdn hx hT hU he h63) h
theorem s_make {t e d by_:Nat} {x y:Operand} {kl kc:IntKind} {m1 m2:Int} {z:Value} (n:Nat) (h1:m1=(n:Int)) (h2:m2=(n:Int)) (hby:by_ * n≤281474976710656) (h63:n≤9223372036854775807) (ho:o.op = .makeSlice t x y:=by rfl) (hx:opE env x=some (.lit (.int kl m1)):=by rfl) (hy:opE env y=some (.lit (.int kc m2)):=by rfl)
    (ht:P.underlying t=some (.slice e):=by rfl) (hs:sizeT P e=some 1:=by rfl) (hb:bytesT P e=some by_:=by rfl) (hz:zeroT P e=some [.lit z]:=by rfl) (hg:guardV env ops o.guard=some true:=by rfl) (hd:o.dst=some d:=by rfl) (hdn:Nat.blt d nt=true:=by rfl) (hn0:Nat.ble n0 next=true:=by rfl)
    (h:RunL P n0 ops.toArray rest ⟨(d,.own next) :: env,(next,some (.row e 1 (List.replicate n [.lit z]))) :: heap,next+1,nt⟩ Q):RunL P n0 ops.toArray (o :: rest) ⟨env,heap,next,nt⟩ Q:=
  l_g hg (gstep_of_at (Nat.le_of_ble_eq_true hn0) (a_make (st:={ env:=env,heap:=heap,next:=next+1,nt:=nt }) ho hd hdn hx hy h1 h2 ht hs hb hz hby h63)) h
theorem s_set {T:TypeId} {x y:Operand} {id i j e s:Nat} {l r:List (List V)} {vs:List V} {v:V} (hi:i<l.length) (hr:l.set i (setAt j vs (eAt l i))=r) (ho:o.op = .store T x y:=by rfl) (hd:o.dst=none:=by rfl) (hx:opE env x=some (.ptr id i s j):=by rfl) (hh:getH heap id=some (.row e s l):=by rfl) (hy:opE env y=some v:=by rfl)
    (hf:flat v=some vs:=by rfl) (hp:vs.all pureV=true:=by rfl) (hT:sizeT P T=some vs.length:=by rfl) (hl:Nat.ble (j+vs.length) s=true:=by rfl) (hg:guardV env ops o.guard=some true:=by rfl)
    (h:RunL P n0 ops.toArray rest ⟨env,(id,some (.row e s r)) :: heap,next,nt⟩ Q):RunL P n0 ops.toArray (o :: rest) ⟨env,heap,next,nt⟩ Q:=by
  subst hr
  exact l_g hg (g_store_row (st:=⟨env,heap,next,nt⟩) ho hd hx hh hi hy hf hp hT hl) h
theorem s_app {x y:Operand} {t e s by_ id d:Nat} {l m r:List (List V)} {v:V} (hr:l++m=r) (hm:∀ i,i<m.length→(eAt m i).length=s) (hby:(l.length+m.length) * by_≤140737488355328) (h63:l.length+m.length≤9223372036854775807)
    (ho:o.op = .call { callee:=.builtin .append,args:=#[x,y],argTypes:=#[t,t] }:=by rfl) (hx:opE env x=some (.own id):=by rfl) (hh:getH heap id=some (.row e s l):=by rfl) (hy:opE env y=some v:=by rfl) (hv:srcV heap v=some m:=by rfl)
    (ht:P.underlying t=some (.slice e):=by rfl) (hs:sizeT P e=some s:=by rfl) (hb:bytesT P e=some by_:=by rfl) (hz:∃ z,zeroT P e=some z∧z.length=s:=by exact ⟨_,rfl,rfl⟩) (hg:guardV env ops o.guard=some true:=by rfl) (hd:o.dst=some d:=by rfl) (hdn:Nat.blt d nt=true:=by rfl) (hn0:Nat.ble n0 next=true:=by rfl)
    (h:RunL P n0 ops.toArray rest ⟨(d,.own next) :: env,(next,some (.row e s r)) :: (id,none) :: heap,next+1,nt⟩ Q):RunL P n0 ops.toArray (o :: rest) ⟨env,heap,next,nt⟩ Q:=by
  subst hr
  exact l_g hg (g_append (st:=⟨env,heap,next,nt⟩) ho hd hdn hn0 hx hh hy hv ht hs hb hz hm hby h63) h
end
end
end Go.Proofs.YtendheafcbickaaGreat
end
section
namespace Go.Proofs.YtendheafcbickaaGreat
open Go.RowKit
section
variable {P:Program} {o:Oper} {st:St} {n0:Nat}
theorem less_sub {st st':St} (h2:st'.next=st.next) (h3:st'.nt=st.nt) (hc:∀ t v,getE st'.env t=some v→getE st.env t=some v) (hh:∀ t v,getH st'.heap t=some v→getH st.heap t=some v):Less P n0 st st':=
  fun F base w0 ρ a w hH hE=>by
    have hs:∀ b,Stab F ρ st.heap b→Stab F ρ st'.heap b:=fun b h=>⟨h.1,fun id B u hB ho hu=>h.2 id B u (hh id B hB) ho hu⟩
    refine ⟨ρ,⟨⟨hH.below,hH.hbase,by rw [h2];exact hH.sup,fun id id' B B' u u' b hB hB'=>hH.inj id id' B B' u u' b (hh _ _ hB) (hh _ _ hB'),fun id B hB=>?_⟩,hH.hF⟩,⟨by rw [h3];exact hE.size,hE.defers,fun t v hv=>?_⟩,fun _ _=>rfl⟩
    · exact (hH.blk id B (hh id B hB)).mono (Same.refl _ _) (fun b h _=>hs b h) (fun _ _ h=>h) (fun _ _ _ _ _ _=>rfl)
    · exact (hE.slot t v (hc t v hv)).mono (Same.refl _ _) (fun b h _=>hs b h) (fun _ _ h=>h)
theorem less_ro {t id:Nat} {l:List (List V)} {st:St} (ht:getE st.env t=some (.own id)) (hh:getH st.heap id=some (.fro l)):Less P n0 st { st with env:=(t,.ro l) :: st.env }:=
  fun F base w0 ρ a w hH hE=>by
    refine ⟨ρ,hH,⟨hE.size,hE.defers,fun x v hx=>?_⟩,fun _ _=>rfl⟩
    simp only [getE] at hx
    cases hb:Nat.beq t x with
    | true=>
      rw [hb] at hx
      simp only [cond_true,Option.some.injEq] at hx
      subst hx
      have:=Nat.eq_of_beq_eq_true hb
      subst this
      obtain ⟨v,h1,h2,_⟩:=hH.blk _ _ hh
      rw [own_inv (hE.slot t _ ht)] at h1;injection h1 with h1
      rw [h1];exact .pure h2
    | false=>
      rw [hb] at hx
      exact hE.slot x v hx
theorem at_less {k:Nat} {st1 st2:St} (h:GAt P k o st st1) (hl:Less P st1.next st1 st2) (hn:st2.next=st1.next) (hn2:st1.next=st.next):GAt P k o st st2:=fun F base w0 ρ a w hH hE hnn hk=>by
  refine upon_mono0 ?_ (h F base w0 ρ a w hH hE hnn hk)
  rintro a' w' ⟨ρ',h1,h2,h3,h4⟩
  obtain ⟨ρ'',q1,q2,q3⟩:=hl F base w0 ρ' a' w' h1 h2
  have none_of:∀ {r:Nat→Option Value} {n id:Nat},(∀ id u,r id=some u→id<n∧u.oneCell' = true)→n≤id→r id=none:=fun hs hid=>by
    rename_i r n id
    cases hr:r id with
    | none=>rfl
    | some u=>have:=(hs id u hr).1;omega
  have heq:∀ id,ρ'' id=ρ' id:=fun id=>by
    by_cases hid:id<st1.next
    · exact q3 id hid
    · rw [none_of q1.sup (by rw [hn];omega),none_of h1.sup (by omega)]
  exact ⟨ρ'',q1,q2,fun id u hu=>by rw [heq];exact h3 id u hu,fun id hid=>by rw [heq];exact h4 id hid⟩
theorem at_free {k:Nat} {st':St} (h:getH st.heap k=none→GAt P k o st st'):GAt P k o st st':=fun F base w0 ρ a w hH hE hnn hk=>by
  cases hB:getH st.heap k with
  | none=>exact h hB F base w0 ρ a w hH hE hnn hk
  | some B=>
    obtain ⟨u,hu⟩:=hH.some_of hB
    rw [hnn] at hu;cases hu
theorem a_appro {k:Nat} {x y:Operand} {t e s by_ id d:Nat} {l m:List (List V)} {v:V} (ho:o.op = .call { callee:=.builtin .append,args:=#[x,y],argTypes:=#[t,t] }) (hd:o.dst=some d) (hdn:Nat.blt d st.nt=true)
    (hx:opE st.env x=some (.own id)) (hh:getH st.heap id=some (.row e s l)) (hy:opE st.env y=some v) (hv:srcV st.heap v=some m)
    (ht:P.underlying t=some (.slice e)) (hs:sizeT P e=some s) (hb:bytesT P e=some by_) (hz:∃ z,zeroT P e=some z∧z.length=s)
    (hm:∀ i,i<m.length→(eAt m i).length=s) (hby:(l.length+m.length) * by_≤140737488355328) (h63:l.length+m.length≤9223372036854775807) :
    GAt P k o st { env:=(d,.ro (l++m)) :: st.env,heap:=(id,none) :: st.heap,next:=st.next,nt:=st.nt }:=by
  refine at_free (fun hkk=>?_)
  refine at_less (a_append ho hd hdn hx hh hy hv ht hs hb hz hm hby h63) ?_ rfl rfl
  have h1:Less P st.next { env:=(d,.own k) :: st.env,heap:=(k,some (.row e s (l++m))) :: (id,none) :: st.heap,next:=st.next,nt:=st.nt } _:=less_fro (id:=k) (e:=e) (s:=s) (l:=l++m) (by simp [getH])
  refine h1.trans ?_
  have h2:Less P st.next { env:=(d,.own k) :: st.env,heap:=(k,some (.fro (l++m))) :: (k,some (.row e s (l++m))) :: (id,none) :: st.heap,next:=st.next,nt:=st.nt } _:=less_ro (t:=d) (id:=k) (l:=l++m) (by simp [getE]) (by simp [getH])
  refine h2.trans ?_
  refine less_sub rfl rfl (fun t v hv=>?_) (fun j B hB=>?_)
  · simp only [getE] at hv ⊢
    cases hb:Nat.beq d t with
    | true=>rw [hb] at hv;exact hv
    | false=>rw [hb] at hv;exact hv
  · rw [getH_new] at hB
    split at hB
    · cases hB
    · rename_i hji
      have hne:k≠j:=fun e=>by rw [← e,hkk] at hB;cases hB
      show getH ((k,some (Blk.fro (l++m))) :: (k,some (Blk.row e s (l++m))) :: (id,none) :: st.heap) j=_
      rw [getH_new,if_neg hne,getH_new,if_neg hne,getH_new,if_neg hji]
      exact hB
theorem a_app0 {k:Nat} {x y:Operand} {t e s by_ d:Nat} {m:List (List V)} {v:V} (ho:o.op = .call { callee:=.builtin .append,args:=#[x,y],argTypes:=#[t,t] }) (hd:o.dst=some d) (hdn:Nat.blt d st.nt=true)
    (hx:opE st.env x=some (.lit (.slice none 0 0))) (hy:opE st.env y=some v) (hv:srcV st.heap v=some m)
    (ht:P.underlying t=some (.slice e)) (hs:sizeT P e=some s) (h0:Nat.blt 0 s=true) (hb:bytesT P e=some by_) (hz:∃ z,zeroT P e=some z∧z.length=s)
    (hm:∀ i,i<m.length→(eAt m i).length=s) (hby:m.length * by_≤140737488355328) (h63:m.length≤9223372036854775807) :
    GAt P k o st (st.newAt k d (.own k) (.row e s m)):=fun F base w0 ρ a w hH hE hnn hk=>by
  obtain ⟨i,z,hi,hz1,hsz,hbb,hzs⟩:=elem_info hs hb hz
  have h0:=Nat.le_of_ble_eq_true h0
  have hxv:=lit_inv (opE_sound hE hx)
  obtain ⟨A,c,news,hu,hnl,hA,hrel⟩:=src_spec hH.toHRel0 (opE_sound hE hy) hv hm h0
  have hone:=pure_cells h0 hnl hrel
  obtain ⟨v',w',hr,hown,hg,hblk⟩:=app_run (P:=P) (ty:=o.type) ht hi hz1 hsz hbb hzs h0 (World.ownsRow_nil w 0 e s) (c:=c) hnl hA hone (by unfold maxLen;omega) (by rw [Nat.zero_add];exact hby) (Nat.zero_le _)
  rw [Nat.zero_add,List.nil_append] at hown
  have hB:Below w.heap.size w w':=⟨hg.os,hg.tape,hg.output,hg.size,fun j hj=>hg.block j hj (by simp [Value.ownBlock])⟩
  have hnew:∀ b,blockOf v' = some b→w.heap.size≤b:=fun b hb=>hblk.elim (fun h=>by rw [h] at hb;simp [blockOf] at hb) (fun h=>h b hb)
  have hv'1:v'.oneCell' = true:=by rcases hown.2 with ⟨rfl,_⟩ | ⟨_,_,_,rfl,_⟩ <;> rfl
  refine wp_of_value (u:=v') (w':=w') ?_ ?_
  · unfold execOp;rw [ho]
    simp only [resolve,invoke,builtin,Sem.run_bind,Sem.run_pure,Result.andThen_ok,List.map_toArray,List.map_cons,List.map_nil,hu,hxv,hr]
  · rw [hd]
    refine next_new hH hE hnn hk hB (fun _ b hb=>hnew b hb) (Nat.le_of_ble_eq_true hdn) hv'1 (fun S hS _ hsame=>?_) (fun S=>.own (upd_same _ _ _))
    refine ⟨h0,v',news,upd_same _ _ _,⟨hown,fun b hb=>hH.hbase b (hnew b hb)⟩,hm,fun i j hi hj=>?_⟩
    obtain ⟨u,g1,g2⟩:=hrel i j hi hj
    exact ⟨u,g1,g2.mono hsame hS,g2.one⟩
theorem run_lit0 {t e s:Nat} (ht:P.underlying t=some (.slice e)) (hs:sizeT P e=some s) (w:World):(Instr.buildSlice t 0 #[]).run P w = .ok (.slice (some ⟨w.heap.size,0,none⟩) 0 0) (w.alloc (.cells #[] e)):=by
  simp only [Instr.buildSlice,Sem.run_bind,run_underlying ht,Result.andThen_ok,run_sizeT hs,Nat.zero_mul]
  simp [Instr.fill,newRow,Sem.run_bind,Sem.run_pure,show Array.range 0 = #[] from rfl]
theorem a_lit0 {k t e s d:Nat} (ho:o.op = .buildSlice t 0 #[]) (hd:o.dst=some d) (hdn:Nat.blt d st.nt=true) (ht:P.underlying t=some (.slice e)) (hs:sizeT P e=some s) (h0:Nat.blt 0 s=true) :
    GAt P k o st (st.newAt k d (.own k) (.row e s [])):=fun F base w0 ρ a w hH hE hnn hk=>by
  refine wp_of_value (u:=.slice (some ⟨w.heap.size,0,none⟩) 0 0) (w':=w.alloc (.cells #[] e)) ?_ ?_
  · unfold execOp;rw [ho]
    have:=run_lit0 ht hs w
    simp only [List.map_toArray,List.map_nil,Sem.run_bind,this];rfl
  · rw [hd]
    refine next_new hH hE hnn hk (below_alloc _ _) (fun _ b hb=>by simp only [blockOf,Option.some.injEq] at hb;omega) (Nat.le_of_ble_eq_true hdn) rfl (fun S hS _ hsame=>?_) (fun S=>.own (upd_same _ _ _))
    refine ⟨Nat.le_of_ble_eq_true h0,_,[],upd_same _ _ _,⟨⟨by simp,.inr ⟨w.heap.size,0,#[],rfl,Nat.zero_le _,alloc_cells _ _ _,Nat.le_refl _,by unfold maxLen;omega,by simp,by simp⟩⟩,fun b hb=>?_⟩,fun i hi=>by simp at hi,fun i j hi=>by simp at hi⟩
    simp only [blockOf,Option.some.injEq] at hb;exact hH.hbase b (by omega)
section
variable {ops:List Oper} {rest:List Oper} {env:List (Nat×V)} {heap:List (Nat×Option Blk)} {next nt:Nat} {Q:St→Prop}
theorem s_appro {x y:Operand} {t e s by_ id d:Nat} {l m r:List (List V)} {v:V} (hr:l++m=r) (hm:∀ i,i<m.length→(eAt m i).length=s) (hby:(l.length+m.length) * by_≤140737488355328) (h63:l.length+m.length≤9223372036854775807)
    (ho:o.op = .call { callee:=.builtin .append,args:=#[x,y],argTypes:=#[t,t] }:=by rfl) (hx:opE env x=some (.own id):=by rfl) (hh:getH heap id=some (.row e s l):=by rfl) (hy:opE env y=some v:=by rfl) (hv:srcV heap v=some m:=by rfl)
    (ht:P.underlying t=some (.slice e):=by rfl) (hs:sizeT P e=some s:=by rfl) (hb:bytesT P e=some by_:=by rfl) (hz:∃ z,zeroT P e=some z∧z.length=s:=by exact ⟨_,rfl,rfl⟩) (hg:guardV env ops o.guard=some true:=by rfl) (hd:o.dst=some d:=by rfl) (hdn:Nat.blt d nt=true:=by rfl) (hn0:Nat.ble n0 next=true:=by rfl)
    (h:RunL P n0 ops.toArray rest ⟨(d,.ro r) :: env,(id,none) :: heap,next+1,nt⟩ Q):RunL P n0 ops.toArray (o :: rest) ⟨env,heap,next,nt⟩ Q:=by
  subst hr
  exact l_g hg (gstep_of_at (Nat.le_of_ble_eq_true hn0) (a_appro (st:={ env:=env,heap:=heap,next:=next+1,nt:=nt }) ho hd hdn hx hh hy hv ht hs hb hz hm hby h63)) h
theorem s_app0 {x y:Operand} {t e s by_ d:Nat} {m:List (List V)} {v:V} (hm:∀ i,i<m.length→(eAt m i).length=s) (hby:m.length * by_≤140737488355328) (h63:m.length≤9223372036854775807)
    (ho:o.op = .call { callee:=.builtin .append,args:=#[x,y],argTypes:=#[t,t] }:=by rfl) (hx:opE env x=some (.lit (.slice none 0 0)):=by rfl) (hy:opE env y=some v:=by rfl) (hv:srcV heap v=some m:=by rfl)
    (ht:P.underlying t=some (.slice e):=by rfl) (hs:sizeT P e=some s:=by rfl) (hb:bytesT P e=some by_:=by rfl) (hz:∃ z,zeroT P e=some z∧z.length=s:=by exact ⟨_,rfl,rfl⟩) (h0:Nat.blt 0 s=true:=by rfl) (hg:guardV env ops o.guard=some true:=by rfl) (hd:o.dst=some d:=by rfl) (hdn:Nat.blt d nt=true:=by rfl) (hn0:Nat.ble n0 next=true:=by rfl)
    (h:RunL P n0 ops.toArray rest ⟨(d,.own next) :: env,(next,some (.row e s m)) :: heap,next+1,nt⟩ Q):RunL P n0 ops.toArray (o :: rest) ⟨env,heap,next,nt⟩ Q:=
  l_g hg (gstep_of_at (Nat.le_of_ble_eq_true hn0) (a_app0 (st:={ env:=env,heap:=heap,next:=next+1,nt:=nt }) ho hd hdn hx hy hv ht hs h0 hb hz hm hby h63)) h
end
section
variable {nt b0 k k':Nat} {ops:List Oper} {W:Nat→Nat→Bool} {rest:List Oper} {env:List (Nat×V)} {heap:List (Nat×Option Blk)} {Q:St→Prop}
theorem srcV_mono {E heap:List (Nat×Option Blk)} (h:CovH E heap) {v:V} {m:List (List V)} (hv:srcV E v=some m):srcV heap v=some m:=by
  cases v with
  | own id=>
    simp only [srcV] at hv ⊢
    cases hB:getH E id with
    | none=>rw [hB] at hv;cases hv
    | some B=>rw [h id B hB];rw [hB] at hv;exact hv
  | lit u=>
    cases u with
    | slice A n c=>cases A <;> cases n <;> exact hv
    | _=>exact hv
  | _=>exact hv
theorem p_at {Hn H:List (Nat×Option Blk)} {v:V} {d:Nat} (hg:guardV (lk (looks ops o) env) ops o.guard=some true) (hd:o.dst=some d) (hk:k+1=k') (hb:Nat.ble b0 k=true)
    (hHn:∀ id B,getH Hn id=some B→vis ops W b0 (k - b0) id=true∧getH heap id=some B) (hH:∀ id,inH H id=true→id=k∨(W (k - b0) id=true∧isWc o.op=true∧vis ops W b0 (k - b0) id=true))
    (hq:∀ N env' heap',CovE (lk (looks ops o) env) env' → CovH Hn heap' → GAt P k o ⟨env',heap',N,nt⟩ ⟨(d,v) :: env',H++heap',N,nt⟩)
    (h:PL P nt b0 ops W k' rest ((d,v) :: env) (H++heap) Q):PL P nt b0 ops W k (o :: rest) env heap Q:=by
  subst hk
  refine p_cons (s:=⟨v,H⟩) (fun N h1 h2=>⟨lk (looks ops o) env,Hn,fun t x h=>lk_spec h,hHn,fun id h=>?_,?_⟩) ?_ hb
  · rw [show b0+(k - b0)=k by omega];exact hH id h
  · rw [show b0+(k - b0)=k by omega]
    refine fam_at hg h2 (fun env' heap' hE hHc=>?_)
    rw [hd]
    exact hq N env' heap' hE hHc
  · rw [hd];exact h
theorem one_vis {id:Nat} {B:Blk} {i:Nat} (hv:vis ops W b0 i id=true) (hh:getH heap id=some B):∀ id' B',getH [(id,some B)] id' = some B' → vis ops W b0 i id' = true∧getH heap id' = some B':=by
  intro id' B' h'
  rw [getH_new] at h'
  split at h'
  · rename_i e;subst e;injection h' with h';subst h';exact ⟨hv,hh⟩
  · cases h'
theorem p_lit0 {t e s d:Nat} (ho:o.op = .buildSlice t 0 #[]:=by rfl) (ht:P.underlying t=some (.slice e):=by rfl) (hs:sizeT P e=some s:=by rfl) (h0:Nat.blt 0 s=true:=by rfl) (hg:guardV (lk (looks ops o) env) ops o.guard=some true:=by rfl) (hd:o.dst=some d:=by rfl) (hdn:Nat.blt d nt=true:=by rfl) (hk:k+1=k':=by (simp only [Nat.reduceAdd];rfl)) (hb':Nat.ble b0 k=true:=by rfl)
    (h:PL P nt b0 ops W k' rest ((d,.own k) :: env) ((k,some (.row e s [])) :: heap) Q):PL P nt b0 ops W k (o :: rest) env heap Q:=
  p_at (Hn:=[]) (H:=[(k,some (.row e s []))]) hg hd hk hb' (fun id B h=>by cases h) (fun id h=>.inl (inH_one h)) (fun N env' heap' hE hH=>a_lit0 (st:=⟨env',heap',N,nt⟩) ho hd hdn ht hs h0) h
theorem partsE_mono {E env:List (Nat×V)} (h:CovE E env):∀ {xs:List (Nat×Operand)} {ps:List (Nat×List V)},partsE E xs=some ps→partsE env xs=some ps
  | [],ps,hx=>hx
  | (i,x) :: xs,ps,hx=>by
    simp only [partsE] at hx ⊢
    split at hx
    · rename_i v hv
      rw [opE_mono h hv]
      split at hx
      · rename_i cs ps' h1 h2
        simp only [h1,partsE_mono h h2];exact hx
      · cases hx
    · cases hx
theorem p_lit {t e len d:Nat} {parts:Array (Nat×Operand)} {ps:List (Nat×List V)} {l l':List (List V)} (ho:o.op = .buildSlice t len parts:=by rfl) (ht:P.underlying t=some (.slice e):=by rfl) (hp:partsE (lk (looks ops o) env) parts.toList=some ps:=by rfl) (hl:sliceV P e len ps=some l:=by rfl) (hN:NormL l l':=by repeat' (first|exact NormL.nil|apply NormL.cons|exact Norm.nil|apply Norm.cons)) (hpu:l'.all (fun cs=>cs.all pureV)=true:=by rfl) (hg:guardV (lk (looks ops o) env) ops o.guard=some true:=by rfl) (hd:o.dst=some d:=by rfl) (hdn:Nat.blt d nt=true:=by rfl) (hlen:Nat.blt 0 len=true:=by rfl) (hsm:Nat.ble (len * (sizeT P e).getD 0) 16777216=true:=by rfl) (hk:k+1=k':=by (simp only [Nat.reduceAdd];rfl)) (hb':Nat.ble b0 k=true:=by rfl)
    (h:PL P nt b0 ops W k' rest ((d,.ro l') :: env) heap Q):PL P nt b0 ops W k (o :: rest) env heap Q:=by
  have e:=hN.eq
  subst e
  subst hk
  refine p_cons (s:=⟨.ro l,[]⟩) (fun N _ _=>⟨lk (looks ops o) env,[],fun t x h=>lk_spec h,fun id B h=>(by cases h),fun id h=>(inH_nil h).elim,fam_g hg (fun env' heap' hE hH=>?_)⟩) ?_ hb'
  · have:=g_lit (P:=P) (n0:=N) (st:=⟨env',heap',N,nt⟩) ho hd hdn ht (partsE_mono hE hp) hl hpu hlen hsm
    rw [hd]
    exact this
  · rw [hd];exact h
theorem app_isW {x y:Operand} {t:Nat} (ho:o.op = .call { callee:=.builtin .append,args:=#[x,y],argTypes:=#[t,t] }):isWc o.op=true:=by rw [ho];rfl
theorem p_app {x y:Operand} {t e s by_ id d:Nat} {l m r:List (List V)} {v:V} (hr:l++m=r) (hm:∀ i,i<m.length→(eAt m i).length=s) (hby:(l.length+m.length) * by_≤140737488355328) (h63:l.length+m.length≤9223372036854775807)
    (ho:o.op = .call { callee:=.builtin .append,args:=#[x,y],argTypes:=#[t,t] }:=by rfl) (hx:opE (lk (looks ops o) env) x=some (.own id):=by rfl) (hh:getH heap id=some (.row e s l):=by rfl) (hy:opE (lk (looks ops o) env) y=some v:=by rfl) (hv:srcV [] v=some m:=by rfl)
    (ht:P.underlying t=some (.slice e):=by rfl) (hs:sizeT P e=some s:=by rfl) (hb:bytesT P e=some by_:=by rfl) (hz:∃ z,zeroT P e=some z∧z.length=s:=by exact ⟨_,rfl,rfl⟩) (hg:guardV (lk (looks ops o) env) ops o.guard=some true:=by rfl) (hd:o.dst=some d:=by rfl) (hdn:Nat.blt d nt=true:=by rfl) (hk:k+1=k':=by (simp only [Nat.reduceAdd];rfl)) (hb':Nat.ble b0 k=true:=by rfl) (hW:W (k - b0) id=true:=by rfl) (hvs:vis ops W b0 (k - b0) id=true:=by kernel_rfl)
    (h:PL P nt b0 ops W k' rest ((d,.own k) :: env) ((k,some (.row e s r)) :: (id,none) :: heap) Q):PL P nt b0 ops W k (o :: rest) env heap Q:=by
  subst hr
  refine p_at (Hn:=[(id,some (.row e s l))]) (H:=[(k,some (.row e s (l++m))),(id,none)]) hg hd hk hb' (one_vis hvs hh) (fun id' h=>?_) (fun N env' heap' hE hH=>a_append (st:=⟨env',heap',N,nt⟩) ho hd hdn (opE_mono hE hx) (hH id (.row e s l) (by simp [getH])) (opE_mono hE hy) (srcV_mono (E:=[]) (fun t x h=>by cases h) hv) ht hs hb hz hm hby h63) h
  simp only [inH,Bool.or_false,Bool.or_eq_true] at h
  rcases h with h|h
  · exact .inl (Nat.eq_of_beq_eq_true h).symm
  · rw [← Nat.eq_of_beq_eq_true h];exact .inr ⟨hW,app_isW ho,hvs⟩
theorem p_appro {x y:Operand} {t e s by_ id d:Nat} {l m r:List (List V)} {v:V} (hr:l++m=r) (hm:∀ i,i<m.length→(eAt m i).length=s) (hby:(l.length+m.length) * by_≤140737488355328) (h63:l.length+m.length≤9223372036854775807)
    (ho:o.op = .call { callee:=.builtin .append,args:=#[x,y],argTypes:=#[t,t] }:=by rfl) (hx:opE (lk (looks ops o) env) x=some (.own id):=by rfl) (hh:getH heap id=some (.row e s l):=by rfl) (hy:opE (lk (looks ops o) env) y=some v:=by rfl) (hv:srcV [] v=some m:=by rfl)
    (ht:P.underlying t=some (.slice e):=by rfl) (hs:sizeT P e=some s:=by rfl) (hb:bytesT P e=some by_:=by rfl) (hz:∃ z,zeroT P e=some z∧z.length=s:=by exact ⟨_,rfl,rfl⟩) (hg:guardV (lk (looks ops o) env) ops o.guard=some true:=by rfl) (hd:o.dst=some d:=by rfl) (hdn:Nat.blt d nt=true:=by rfl) (hk:k+1=k':=by (simp only [Nat.reduceAdd];rfl)) (hb':Nat.ble b0 k=true:=by rfl) (hW:W (k - b0) id=true:=by rfl) (hvs:vis ops W b0 (k - b0) id=true:=by kernel_rfl)
    (h:PL P nt b0 ops W k' rest ((d,.ro r) :: env) ((id,none) :: heap) Q):PL P nt b0 ops W k (o :: rest) env heap Q:=by
  subst hr
  refine p_at (Hn:=[(id,some (.row e s l))]) (H:=[(id,none)]) hg hd hk hb' (one_vis hvs hh) (fun id' h=>?_) (fun N env' heap' hE hH=>a_appro (st:=⟨env',heap',N,nt⟩) ho hd hdn (opE_mono hE hx) (hH id (.row e s l) (by simp [getH])) (opE_mono hE hy) (srcV_mono (E:=[]) (fun t x h=>by cases h) hv) ht hs hb hz hm hby h63) h
  rw [inH_one h];exact .inr ⟨hW,app_isW ho,hvs⟩
end
end
end Go.Proofs.YtendheafcbickaaGreat
end
section
namespace Go.Proofs.YtendheafcbickaaGreat
open Go.RowKit
section
variable {P:Program} {o:Oper} {n0:Nat}
def wEnv (P:Program) (heap:List (Nat×Option Blk)):List Oper→List (Nat×V)→List (Nat×V)
  | [],env=>env
  | o :: os,env=>match o.dst with
    | none=>wEnv P heap os env
    | some d=>match o.op with
      | .indexAddr _ (.tmp t) _=>match getE env t with
        | some (.own id)=>wEnv P heap os ((d,.ptr id 0 0 0) :: env)
        | _=>wEnv P heap os env
      | .move (.tmp t)=>match getE env t with
        | some v=>wEnv P heap os ((d,v) :: env)
        | none=>wEnv P heap os env
      | .assign (.tmp t)=>match getE env t with
        | some v=>wEnv P heap os ((d,v) :: env)
        | none=>wEnv P heap os env
      | .fieldAddr T x f=>match stepV P [] ⟨env,heap,0,0⟩ (.fieldAddr T x f) with
        | some v=>wEnv P heap os ((d,v) :: env)
        | none=>wEnv P heap os env
      | .nilCheck (.tmp t)=>match getE env t with
        | some v=>wEnv P heap os ((d,v) :: env)
        | none=>wEnv P heap os env
      | .load T x=>match stepV P [] ⟨env,heap,0,0⟩ (.load T x) with
        | some v=>wEnv P heap os ((d,v) :: env)
        | none=>wEnv P heap os env
      | _=>wEnv P heap os env
def ownsIn (heap:List (Nat×Option Blk)) (id:Nat):List Nat:=match getH heap id with
  | some (.box _ cs)=>cs.filterMap (fun c=>match c with
    | .own i=>some i
    | .ptr i _ _ _=>some i
    | _=>none)
  | _=>[]
def callIds (env:List (Nat×V)) (heap:List (Nat×Option Blk)):List Operand→List Nat
  | []=>[]
  | .tmp t :: xs=>(match getE env t with
    | some (.ptr id _ _ _)=>id :: ownsIn heap id
    | _=>[])++callIds env heap xs
  | _ :: xs=>callIds env heap xs
def wIds (env:List (Nat×V)) (heap:List (Nat×Option Blk)):Nat→List Oper→List (Nat×Nat)
  | _,[]=>[]
  | j,o :: os=>match o.op with
    | .store _ (.tmp t) _=>match getE env t with
      | some (.ptr id _ _ _)=>(j,id) :: wIds env heap (j+1) os
      | _=>wIds env heap (j+1) os
    | .call { callee:=.builtin .append,args:=⟨.tmp t :: _⟩,argTypes:=_ }=>match getE env t with
      | some (.own id)=>(j,id) :: wIds env heap (j+1) os
      | _=>wIds env heap (j+1) os
    | .call { callee:=.value (.func _),args:=xs,argTypes:=_ }=>(callIds env heap xs.toList).map (fun i=>(j,i))++wIds env heap (j+1) os
    | _=>wIds env heap (j+1) os
inductive NormI:List (Nat×Nat)→List (Nat×Nat)→Prop
  | nil:NormI [] []
  | cons {a b:Nat} {l m:List (Nat×Nat)} (h:NormI l m):NormI ((a,b) :: l) ((a,b) :: m)
def memW:List (Nat×Nat)→Nat→Nat→Bool
  | [],_,_=>false
  | (a,b) :: l,j,x=>(Nat.beq a j && Nat.beq b x) || memW l j x
def memI:List Nat→Nat→Bool
  | [],_=>false
  | a :: l,x=>Nat.beq a x || memI l x
def isWat (l:List Oper) (j:Nat):Bool:=match l[j]? with
  | some o=>isW o.op
  | none=>false
theorem r_drawA {id:Nat} {st:St} {Q:Exit→St→Prop} {l:List Oper} {ws:List (Nat×Nat)} (h:PL P st.nt st.next l (fun j id=>(Nat.ble st.next id && isWat l j) || memW ws j id) st.next l st.env st.heap (Q .normal)) (hw:NormI (wIds (wEnv P st.heap l st.env) st.heap 0 l) ws:=by repeat' (first|exact NormI.nil|apply NormI.cons))
    (hm:P.follows .mixedOrders=true:=by kernel_rfl) (hok:okText l=true:=by kernel_rfl) (hn0:Nat.ble n0 st.next=true:=by kernel_rfl) :
    Run P n0 (.region id l.toArray true) st Q:=r_draw _ h hm hok hn0
end
theorem len_enc {α:Type} {enc:α→List V} {s:Nat} {l:List α} (h:∀ x,(enc x).length=s):∀ i,i<(l.map enc).length→(eAt (l.map enc) i).length=s:=fun i hi=>by
  rw [List.length_map] at hi
  unfold eAt
  rw [List.getD_eq_getElem?_getD,List.getElem?_map,List.getElem?_eq_getElem hi]
  exact h _
theorem len_one {s:Nat} {c:List V} (h:c.length=s):∀ i,i<[c].length→(eAt [c] i).length=s:=fun i hi=>by
  have:i=0:=by simpa using hi
  subst this;exact h
theorem len_none {s:Nat}:∀ i,i<([]:List (List V)).length→(eAt [] i).length=s:=fun i hi=>by simp at hi
section
variable {P:Program} {o:Oper} {n0:Nat} {ops:List Oper} {rest:List Oper} {env:List (Nat×V)} {heap:List (Nat×Option Blk)} {next nt:Nat} {Q:St→Prop}
theorem s_app0R {x y:Operand} {t e s by_ d:Nat} {m r:List (List V)} {v:V} (hr:m=r) (hm:∀ i,i<m.length→(eAt m i).length=s) (hby:m.length * by_≤140737488355328) (h63:m.length≤9223372036854775807)
    (ho:o.op = .call { callee:=.builtin .append,args:=#[x,y],argTypes:=#[t,t] }:=by rfl) (hx:opE env x=some (.lit (.slice none 0 0)):=by rfl) (hy:opE env y=some v:=by rfl) (hv:srcV heap v=some m:=by rfl)
    (ht:P.underlying t=some (.slice e):=by rfl) (hs:sizeT P e=some s:=by rfl) (hb:bytesT P e=some by_:=by rfl) (hz:∃ z,zeroT P e=some z∧z.length=s:=by exact ⟨_,rfl,rfl⟩) (h0:Nat.blt 0 s=true:=by rfl) (hg:guardV env ops o.guard=some true:=by rfl) (hd:o.dst=some d:=by rfl) (hdn:Nat.blt d nt=true:=by rfl) (hn0:Nat.ble n0 next=true:=by rfl)
    (h:RunL P n0 ops.toArray rest ⟨(d,.own next) :: env,(next,some (.row e s r)) :: heap,next+1,nt⟩ Q):RunL P n0 ops.toArray (o :: rest) ⟨env,heap,next,nt⟩ Q:=by
  subst hr;exact s_app0 hm hby h63 ho hx hy hv ht hs hb hz h0 hg hd hdn hn0 h
theorem s_lit0 {t e s d:Nat} (ho:o.op = .buildSlice t 0 #[]:=by rfl) (ht:P.underlying t=some (.slice e):=by rfl) (hs:sizeT P e=some s:=by rfl) (h0:Nat.blt 0 s=true:=by rfl) (hg:guardV env ops o.guard=some true:=by rfl) (hd:o.dst=some d:=by rfl) (hdn:Nat.blt d nt=true:=by rfl) (hn0:Nat.ble n0 next=true:=by rfl)
    (h:RunL P n0 ops.toArray rest ⟨(d,.own next) :: env,(next,some (.row e s [])) :: heap,next+1,nt⟩ Q):RunL P n0 ops.toArray (o :: rest) ⟨env,heap,next,nt⟩ Q:=
  l_g hg (gstep_of_at (Nat.le_of_ble_eq_true hn0) (a_lit0 (st:={ env:=env,heap:=heap,next:=next+1,nt:=nt }) ho hd hdn ht hs h0)) h
end
section
variable {P:Program} {o:Oper} {nt b0 k k':Nat} {ops:List Oper} {W:Nat→Nat→Bool} {rest:List Oper} {env:List (Nat×V)} {heap:List (Nat×Option Blk)} {Q:St→Prop}
end
end Go.Proofs.YtendheafcbickaaGreat
end
section
namespace Go.Proofs.YtendheafcbickaaGreat
open Go.RowKit
def sv (inv:Nat→Option Nat) (heap:List (Nat×Option Blk)):V→Option V
  | .lit u=>some (.lit u)
  | .ro l=>some (.ro l)
  | .rp cs=>some (.rp cs)
  | .own id=>match inv id with
    | some id'=>some (.own id')
    | none=>match getH heap id with
      | some (.row _ _ l)=>some (.ro l)
      | some (.fro l)=>some (.ro l)
      | _=>none
  | .ptr id i s j=>match inv id with
    | some id'=>some (.ptr id' i s j)
    | none=>none
  | .agg cs=>match svL cs with
    | some cs'=>some (.agg cs')
    | none=>none
  | .tup cs=>match svL cs with
    | some cs'=>some (.tup cs')
    | none=>none
  | .clo f cs=>match svL cs with
    | some cs'=>some (.clo f cs')
    | none=>none
  | .any=>some .any
  | .und=>some .und
where svL:List V→Option (List V)
  | []=>some []
  | c :: cs=>match sv inv heap c,svL cs with
    | some c',some cs'=>some (c' :: cs')
    | _,_=>none
theorem svL_spec {inv:Nat→Option Nat} {heap:List (Nat×Option Blk)}:∀ {cs cs':List V},sv.svL inv heap cs=some cs' → cs'.length=cs.length ∧ ∀ j,j<cs.length→sv inv heap (cAt cs j)=some (cAt cs' j)
  | [],cs',h=>by
    simp only [sv.svL,Option.some.injEq] at h
    subst h
    exact ⟨rfl,fun j hj=>by simp at hj⟩
  | c :: cs,cs',h=>by
    simp only [sv.svL] at h
    split at h
    · rename_i c' cs'' h1 h2
      injection h with h;subst h
      obtain ⟨e1,e2⟩:=svL_spec h2
      refine ⟨by simp [e1],fun j hj=>?_⟩
      cases j with
      | zero=>simpa [cAt] using h1
      | succ j=>
        have:=e2 j (by simpa using hj)
        simpa [cAt] using this
    · cases h
def svB (inv:Nat→Option Nat) (heap:List (Nat×Option Blk)):Blk→Option Blk
  | .box t cs=>match sv.svL inv heap cs with
    | some cs'=>some (.box t cs')
    | none=>none
  | .rox _ _ _=>none
  | B=>some B
structure Ren (n0 k1:Nat) (inv:Nat→Option Nat) (mp:Nat→Nat):Prop where
  le:n0≤k1
  back:∀ {o n},inv o=some n→mp n=o∧n<k1
  low:∀ {i},i<n0→inv i=some i
def renρ (ρ:Nat→Option Value) (inv:Nat→Option Nat) (mp:Nat→Nat):Nat→Option Value:=fun id=>if inv (mp id)=some id then ρ (mp id) else none
theorem renρ_some {ρ:Nat→Option Value} {inv:Nat→Option Nat} {mp:Nat→Nat} {id:Nat} {u:Value} (h:renρ ρ inv mp id=some u):inv (mp id)=some id∧ρ (mp id)=some u:=by
  unfold renρ at h
  split at h
  · exact ⟨by assumption,h⟩
  · cases h
theorem renρ_of {n0 k1:Nat} {ρ:Nat→Option Value} {inv:Nat→Option Nat} {mp:Nat→Nat} (hr:Ren n0 k1 inv mp) {o n:Nat} (h:inv o=some n):renρ ρ inv mp n=ρ o:=by
  have e:=(hr.back h).1
  unfold renρ
  rw [e,if_pos h]
section
variable {P:Program} {n0:Nat}
theorem stab_ren {F:Nat→Prop} {ρ:Nat→Option Value} {heap heap':List (Nat×Option Blk)} {inv:Nat→Option Nat} {mp:Nat→Nat}
    (hh:∀ id B',getH heap' id=some B' → inv (mp id)=some id ∧ ∃ B,getH heap (mp id)=some B∧svB inv heap B=some B') {b:Nat} (h:Stab F ρ heap b):Stab F (renρ ρ inv mp) heap' b:=by
  refine ⟨h.1,fun id B' u hB ho hu=>?_⟩
  obtain ⟨_,B,h2,h3⟩:=hh id B' hB
  refine h.2 (mp id) B u h2 ?_ (renρ_some hu).2
  cases B with
  | box t cs=>rfl
  | row=>rfl
  | fro l=>simp only [svB,Option.some.injEq] at h3;subst h3;cases ho
  | map q es=>rfl
  | obj o=>rfl
  | brow be bl=>rfl
  | rox e s l=>simp only [svB] at h3;cases h3
  | fmap q es=>simp only [svB,Option.some.injEq] at h3;subst h3;cases ho
  | iter left cur=>rfl
theorem sv_spec {F base:Nat→Prop} {ρ:Nat→Option Value} {heap heap':List (Nat×Option Blk)} {next k1:Nat} {w0 w:World} {inv:Nat→Option Nat} {mp:Nat→Nat} (hr:Ren n0 k1 inv mp) (hH:HRel F base ρ heap next w0 w)
    (hh:∀ id B',getH heap' id=some B' → inv (mp id)=some id ∧ ∃ B,getH heap (mp id)=some B∧svB inv heap B=some B') {v:V} {u:Value} (h:VRel ρ (Stab F ρ heap) w v u):∀ {v'},sv inv heap v=some v' → VRel (renρ ρ inv mp) (Stab F (renρ ρ inv mp) heap') w v' u:=by
  have hS:∀ b,Stab F ρ heap b→b<w.heap.size→Stab F (renρ ρ inv mp) heap' b:=fun b h _=>stab_ren hh h
  induction h with
  | @pure v u h=>
    intro v' hv
    have hp:=h.mono (Same.refl _ _) hS
    cases h with
    | lit=>simp only [sv,Option.some.injEq] at hv;subst hv;exact .pure hp
    | ro=>simp only [sv,Option.some.injEq] at hv;subst hv;exact .pure hp
  | @own id u h=>
    intro v' hv
    simp only [sv] at hv
    split at hv
    · rename_i id' hi
      injection hv with hv;subst hv
      exact .own (by rw [renρ_of hr hi];exact h)
    · rename_i hi
      split at hv
      · rename_i e s l hhd
        injection hv with hv;subst hv
        obtain ⟨h0,v,xs,h1,⟨h2,_⟩,h3,h4⟩:=hH.blk _ _ hhd
        rw [h] at h1;injection h1 with h1;subst h1
        refine .pure (row_ro h0 h2 h3 h4 hS (fun b hb=>⟨hH.hF b (hH.owned hhd rfl h hb).1,fun id' B' u' hB' ho' hu' hbb=>?_⟩))
        obtain ⟨g1,B,g2,g3⟩:=hh id' B' hB'
        obtain ⟨g4,g5⟩:=renρ_some hu'
        have hoB:B.owns=true:=by
          cases B with
          | box t cs=>rfl
          | row=>rfl
          | fro l=>simp only [svB,Option.some.injEq] at g3;subst g3;cases ho'
          | map q es=>rfl
          | obj o=>rfl
          | brow be bl=>rfl
          | rox e s l=>simp only [svB] at g3;cases g3
          | fmap q es=>simp only [svB,Option.some.injEq] at g3;subst g3;cases ho'
          | iter left cur=>rfl
        have:=hH.inj _ _ _ _ _ _ b g2 hhd hoB rfl g5 h hbb hb
        rw [this,hi] at g1;cases g1
      · rename_i l hhd
        injection hv with hv;subst hv
        obtain ⟨v,h1,h2,_⟩:=hH.blk _ _ hhd
        rw [h] at h1;injection h1 with h1;subst h1
        exact .pure (h2.mono (Same.refl _ _) hS)
      · cases hv
  | @ptr id i s j b u h hb=>
    intro v' hv
    simp only [sv] at hv
    split at hv
    · rename_i id' hi
      injection hv with hv;subst hv
      exact .ptr (by rw [renρ_of hr hi];exact h) hb
    · cases hv
  | rp us hSb hc hrl=>
    intro v' hv
    simp only [sv,Option.some.injEq] at hv;subst hv
    exact .rp us (fun h=>hS _ (hSb h) (cell_lt (hc 0 h))) hc (fun j hj=>(hrl j hj).mono (Same.refl _ _) hS)
  | agg hn h ih=>
    intro v' hv
    simp only [sv] at hv
    split at hv
    · rename_i cs' hcs
      injection hv with hv;subst hv
      obtain ⟨e1,e2⟩:=svL_spec hcs
      exact .agg (by rw [e1];exact hn) (fun j hj=>ih j (by omega) (e2 j (by omega)))
    · cases hv
  | tup hn h ih=>
    intro v' hv
    simp only [sv] at hv
    split at hv
    · rename_i cs' hcs
      injection hv with hv;subst hv
      obtain ⟨e1,e2⟩:=svL_spec hcs
      exact .tup (by rw [e1];exact hn) (fun j hj=>ih j (by omega) (e2 j (by omega)))
    · cases hv
  | clo hn h ih=>
    intro v' hv
    simp only [sv] at hv
    split at hv
    · rename_i cs' hcs
      injection hv with hv;subst hv
      obtain ⟨e1,e2⟩:=svL_spec hcs
      exact .clo (by rw [e1];exact hn) (fun j hj=>ih j (by omega) (e2 j (by omega)))
    · cases hv
  | any u=>intro v' hv;simp only [sv,Option.some.injEq] at hv;subst hv;exact .any u
  | und=>intro v' hv;simp only [sv,Option.some.injEq] at hv;subst hv;exact .und
theorem ren_heap {F base:Nat→Prop} {ρ:Nat→Option Value} {heap heap':List (Nat×Option Blk)} {next k1:Nat} {w0 w:World} {inv:Nat→Option Nat} {mp:Nat→Nat} (hr:Ren n0 k1 inv mp) (hH:HRel F base ρ heap next w0 w)
    (hh:∀ id B',getH heap' id=some B' → inv (mp id)=some id ∧ ∃ B,getH heap (mp id)=some B∧svB inv heap B=some B'):HRel F base (renρ ρ inv mp) heap' k1 w0 w:=by
  have hS:∀ b,Stab F ρ heap b→b<w.heap.size→Stab F (renρ ρ inv mp) heap' b:=fun b h _=>stab_ren hh h
  have hown:∀ {B B':Blk},svB inv heap B=some B' → B'.owns=true→B.owns=true:=fun {B B'} h ho=>by
    cases B with
    | box t cs=>rfl
    | row=>rfl
    | fro l=>simp only [svB,Option.some.injEq] at h;subst h;cases ho
    | map q es=>rfl
    | obj o=>rfl
    | brow be bl=>rfl
    | rox e s l=>simp only [svB] at h;cases h
    | fmap q es=>simp only [svB,Option.some.injEq] at h;subst h;cases ho
    | iter left cur=>rfl
  refine ⟨⟨hH.below,hH.hbase,fun id u hu=>⟨(hr.back (renρ_some hu).1).2,(hH.sup _ u (renρ_some hu).2).2⟩,fun id id' B B' u u' b hB hB' ho ho' hu hu' hb hb'=>?_,fun id B' hB'=>?_⟩,hH.hF⟩
  · obtain ⟨g1,C,g2,g3⟩:=hh id B hB
    obtain ⟨k1,C',k2,k3⟩:=hh id' B' hB'
    have:=hH.inj _ _ _ _ _ _ b g2 k2 (hown g3 ho) (hown k3 ho') (renρ_some hu).2 (renρ_some hu').2 hb hb'
    rw [this,k1] at g1;injection g1 with g1;exact g1.symm
  · obtain ⟨g1,B,g2,g3⟩:=hh id B' hB'
    have hbk:=hH.blk _ _ g2
    have e:renρ ρ inv mp id=ρ (mp id):=by unfold renρ;rw [if_pos g1]
    cases B with
    | box t cs=>
      obtain ⟨b,us,q1,q2,q3,q4,q5⟩:=hbk
      simp only [svB] at g3
      split at g3
      · rename_i cs' hcs
        injection g3 with g3;subst g3
        obtain ⟨e1,e2⟩:=svL_spec hcs
        exact ⟨b,us,by rw [e];exact q1,q2,q3,by omega,fun j hj=>⟨sv_spec hr hH hh (q5 j (by omega)).1 (e2 j (by omega)),(q5 j (by omega)).2⟩⟩
      · cases g3
    | row ty s l=>
      simp only [svB,Option.some.injEq] at g3;subst g3
      obtain ⟨h0,v,xs,q1,q2,q3,q4⟩:=hbk
      exact ⟨h0,v,xs,by rw [e];exact q1,q2,q3,fun i j hi hj=>by
        obtain ⟨u,hu,hp,ho⟩:=q4 i j hi hj
        exact ⟨u,hu,hp.mono (Same.refl _ _) hS,ho⟩⟩
    | fro l=>
      simp only [svB,Option.some.injEq] at g3;subst g3
      obtain ⟨v,q1,q2,q3⟩:=hbk
      exact ⟨v,by rw [e];exact q1,q2.mono (Same.refl _ _) hS,q3⟩
    | map q es=>
      simp only [svB,Option.some.injEq] at g3;subst g3
      obtain ⟨b,mes,clock,q1,q2⟩:=hbk
      exact ⟨b,mes,clock,by rw [e];exact q1,q2⟩
    | obj o=>
      simp only [svB,Option.some.injEq] at g3;subst g3
      obtain ⟨b,q1,q2⟩:=hbk
      exact ⟨b,by rw [e];exact q1,q2⟩
    | brow be bl=>
      simp only [svB,Option.some.injEq] at g3;subst g3
      obtain ⟨b,cap,cur,fz,q1,q2⟩:=hbk
      exact ⟨b,cap,cur,fz,by rw [e];exact q1,q2⟩
    | rox ty s l=>simp only [svB] at g3;cases g3
    | fmap q es=>
      simp only [svB,Option.some.injEq] at g3;subst g3
      obtain ⟨b,mes,clock,q1,q2,q3⟩:=hbk
      exact ⟨b,mes,clock,by rw [e];exact q1,hS b q2 (Array.getElem?_eq_some_iff.1 q3.1).1,q3⟩
    | iter left cur=>
      simp only [svB,Option.some.injEq] at g3;subst g3
      obtain ⟨r,b,mes,clock,since,seen,c0,q1,q2,q3,q4,q5⟩:=hbk
      exact ⟨r,b,mes,clock,since,seen,c0,by rw [e];exact q1,q2,q3,hS b q4 (Array.getElem?_eq_some_iff.1 q5.1).1,q5⟩
def invL:List (Nat×Nat)→Nat→Option Nat
  | [],_=>none
  | (o,n) :: r,x=>bif Nat.beq o x then some n else invL r x
def mpL:List (Nat×Nat)→Nat→Nat
  | [],x=>x
  | (o,n) :: r,x=>bif Nat.beq n x then o else mpL r x
def okP (n0 k1:Nat) (L:List (Nat×Nat)):Bool:=Nat.ble n0 k1 && ((L.all fun p=>Nat.beq (mpL L p.2) p.1 && Nat.blt p.2 k1) && (List.range n0).all fun i=>match invL L i with|some j=>Nat.beq j i|none=>false)
theorem invL_mem:∀ {L:List (Nat×Nat)} {o n:Nat},invL L o=some n→(o,n) ∈ L
  | [],o,n,h=>by cases h
  | (a,b) :: r,o,n,h=>by
    simp only [invL] at h
    cases hb:Nat.beq a o with
    | true=>
      rw [hb] at h
      simp only [cond_true,Option.some.injEq] at h
      rw [← h,← Nat.eq_of_beq_eq_true hb]
      exact List.mem_cons_self ..
    | false=>rw [hb] at h;exact List.mem_cons_of_mem _ (invL_mem h)
theorem okP_ren {n0 k1:Nat} {L:List (Nat×Nat)} (h:okP n0 k1 L=true):Ren n0 k1 (invL L) (mpL L):=by
  unfold okP at h
  simp only [Bool.and_eq_true,List.all_eq_true] at h
  obtain ⟨h1,h2,h3⟩:=h
  refine ⟨Nat.le_of_ble_eq_true h1,fun {o n} hi=>?_,fun {i} hi=>?_⟩
  · have:=h2 _ (invL_mem hi)
    exact ⟨Nat.eq_of_beq_eq_true this.1,Nat.le_of_ble_eq_true this.2⟩
  · have:=h3 i (List.mem_range.2 hi)
    split at this
    · rename_i j hj;rw [hj,Nat.eq_of_beq_eq_true this]
    · cases this
def coverR (L:List (Nat×Nat)) (heap:List (Nat×Option Blk)) (env:List (Nat×V)):List (Nat×V)→Prop
  | []=>True
  | (t,v) :: r=>(∃ u,getE env t=some u∧sv (invL L) heap u=some v)∧coverR L heap env r
theorem coverR_spec {L:List (Nat×Nat)} {heap:List (Nat×Option Blk)} {env:List (Nat×V)}:∀ {e:List (Nat×V)},coverR L heap env e → ∀ t v,getE e t=some v → ∃ u,getE env t=some u∧sv (invL L) heap u=some v
  | [],_,t,v,h=>by simp [getE] at h
  | (s,x) :: r,hc,t,v,h=>by
    simp only [getE] at h
    cases hb:Nat.beq s t with
    | true=>rw [hb] at h;simp only [cond_true,Option.some.injEq] at h;rw [← h,← Nat.eq_of_beq_eq_true hb];exact hc.1
    | false=>rw [hb] at h;exact coverR_spec hc.2 t v h
def coverRH (L:List (Nat×Nat)) (heap:List (Nat×Option Blk)):List (Nat×Option Blk)→Prop
  | []=>True
  | (id,none) :: r=>coverRH L heap r
  | (id,some B') :: r=>(invL L (mpL L id)=some id ∧ ∃ B,getH heap (mpL L id)=some B∧svB (invL L) heap B=some B')∧coverRH L heap r
theorem coverRH_spec {L:List (Nat×Nat)} {heap:List (Nat×Option Blk)}:∀ {e:List (Nat×Option Blk)},coverRH L heap e → ∀ id B',getH e id=some B' → invL L (mpL L id)=some id ∧ ∃ B,getH heap (mpL L id)=some B∧svB (invL L) heap B=some B'
  | [],_,t,v,h=>by simp [getH] at h
  | (s,none) :: r,hc,t,v,h=>by
    rw [getH_new] at h
    split at h
    · cases h
    · exact coverRH_spec (e:=r) hc t v h
  | (s,some u) :: r,hc,t,v,h=>by
    rw [getH_new] at h
    split at h
    · rename_i e;subst e;injection h with h;subst h;exact hc.1
    · exact coverRH_spec (e:=r) hc.2 t v h
theorem less_ren {st st':St} (L:List (Nat×Nat)) (hL:okP n0 st'.next L=true) (hc:coverR L st.heap st.env st'.env) (hh:coverRH L st.heap st'.heap) (hnt:st'.nt=st.nt):Less P n0 st st':=
  fun F base w0 ρ a w hH hE=>by
    have hr:=okP_ren hL
    have hh:=coverRH_spec hh
    refine ⟨renρ ρ (invL L) (mpL L),ren_heap hr hH hh,⟨by rw [hnt];exact hE.size,hE.defers,fun t v hv=>?_⟩,fun id hid=>renρ_of hr (hr.low hid)⟩
    obtain ⟨u,h1,h2⟩:=coverR_spec hc t v hv
    exact sv_spec hr hH hh (hE.slot t u h1) h2
def pairV:V→V→List (Nat×Nat)
  | .own a,.own b=>[(a,b)]
  | .ptr a _ _ _,.ptr b _ _ _=>[(a,b)]
  | .agg cs,.agg ds=>pairL cs ds
  | .tup cs,.tup ds=>pairL cs ds
  | .clo _ cs,.clo _ ds=>pairL cs ds
  | _,_=>[]
where pairL:List V→List V→List (Nat×Nat)
  | c :: cs,d :: ds=>pairV c d++pairL cs ds
  | _,_=>[]
def pairE (env:List (Nat×V)):List (Nat×V)→List (Nat×Nat)
  | []=>[]
  | (t,v) :: r=>match getE env t with
    | some u=>pairV u v++pairE env r
    | none=>pairE env r
def pairH (L:List (Nat×Nat)) (heap:List (Nat×Option Blk)):List (Nat×Option Blk)→List (Nat×Nat)
  | []=>[]
  | (id,some (.box _ ds)) :: r=>match getH heap (mpL L id) with
    | some (.box _ cs)=>pairV.pairL cs ds++pairH L heap r
    | _=>pairH L heap r
  | _ :: r=>pairH L heap r
def lowP:Nat→List (Nat×Nat)
  | 0=>[]
  | n+1=>(n,n) :: lowP n
def pairs (n0:Nat) (st st':St):List (Nat×Nat):=(lowP n0++pairE st.env st'.env)++pairH (lowP n0++pairE st.env st'.env) st.heap st'.heap
inductive NormP:List (Nat×Nat)→List (Nat×Nat)→Prop
  | nil:NormP [] []
  | cons {a b:Nat} {l m:List (Nat×Nat)} (h:NormP l m):NormP ((a,b) :: l) ((a,b) :: m)
theorem ex_sv {L:List (Nat×Nat)} {heap:List (Nat×Option Blk)} {env:List (Nat×V)} {t:Nat} {u v:V} (h:getE env t=some u) (h2:sv (invL L) heap u=some v):∃ u,getE env t=some u∧sv (invL L) heap u=some v:=⟨u,h,h2⟩
theorem ex_int {L:List (Nat×Nat)} {heap:List (Nat×Option Blk)} {env:List (Nat×V)} {t:Nat} {k:IntKind} {m n:Int} (h:getE env t=some (.lit (.int k m))) (h2:m=n):∃ u,getE env t=some u∧sv (invL L) heap u=some (.lit (.int k n)):=⟨_,h,by rw [h2];rfl⟩
theorem ex_blk {L:List (Nat×Nat)} {heap:List (Nat×Option Blk)} {id:Nat} {B B':Blk} (h:getH heap (mpL L id)=some B) (h2:svB (invL L) heap B=some B') (h3:invL L (mpL L id)=some id):invL L (mpL L id)=some id ∧ ∃ B,getH heap (mpL L id)=some B∧svB (invL L) heap B=some B':=⟨h3,B,h,h2⟩
theorem ex_row {L:List (Nat×Nat)} {heap:List (Nat×Option Blk)} {id:Nat} {e s:Nat} {l m:List (List V)} (h:getH heap (mpL L id)=some (.row e s l)) (h2:l=m) (h3:invL L (mpL L id)=some id):invL L (mpL L id)=some id ∧ ∃ B,getH heap (mpL L id)=some B∧svB (invL L) heap B=some (.row e s m):=⟨h3,_,h,by rw [h2];rfl⟩
theorem less_by {st st':St} {L:List (Nat×Nat)} (hN:NormP (pairs n0 st st') L) (hL:okP n0 st'.next L=true) (hc:coverR L st.heap st.env st'.env) (hh:coverRH L st.heap st'.heap) (hnt:st'.nt=st.nt):Less P n0 st st':=less_ren L hL hc hh hnt
theorem wk_int {k:IntKind} {m n:Int} (h:m=n):Wk (.lit (.int k m)) (.lit (.int k n)):=by rw [h];exact .refl _
end
end Go.Proofs.YtendheafcbickaaGreat
end
section
namespace Go.Proofs.YtendheafcbickaaGreat
open Go.RowKit
section
variable {P:Program} {o:Oper} {nt b0 k k':Nat} {ops:List Oper} {W:Nat→Nat→Bool} {rest:List Oper} {env:List (Nat×V)} {heap:List (Nat×Option Blk)} {Q:St→Prop}
theorem p_eqs {T yt:TypeId} {x y:Operand} {xs ys:List V} {fs:Array Field} {p:Prop} {d:Nat} (ho:o.op = .binOp .eql T x y yt:=by rfl) (hx:opE (lk (looks ops o) env) x=some (.agg xs):=by rfl) (hy:opE (lk (looks ops o) env) y=some (.agg ys):=by rfl) (hT:P.underlying T=some (.struct fs):=by rfl) (hp:eqP P xs ys fs.toList=some p:=by rfl) (hg:guardV (lk (looks ops o) env) ops o.guard=some true:=by rfl) (hd:o.dst=some d:=by rfl) (hdn:Nat.blt d nt=true:=by rfl)
    (hn : fs.toList.all (fun f => !(f.name == "_")) = true := by kernel_rfl) (hs : P.stoodInHeld T = false := by kernel_rfl) (hm : P.eqGuardType P.depth T = false := by kernel_rfl) (hk : k + 1 = k' := by (simp only [Nat.reduceAdd]; rfl)) (hb : Nat.ble b0 k = true := by rfl)
    (ht:p→PL P nt b0 ops W k' rest ((d,.lit (.bool true)) :: env) heap Q) (hf:¬ p→PL P nt b0 ops W k' rest ((d,.lit (.bool false)) :: env) heap Q):PL P nt b0 ops W k (o :: rest) env heap Q:=by
  have h:=fun N=>q_struct_eql (P:=P) (G:=[]) (st:=⟨lk (looks ops o) env,[],N,nt⟩) ho hx hy hT hp hn hs hm
  by_cases hp:p
  · exact y_q hg hd hdn hb hk (fun N=>(h N).1 hp) (ht hp)
  · exact y_q hg hd hdn hb hk (fun N=>(h N).2 hp) (hf hp)
end
end Go.Proofs.YtendheafcbickaaGreat
end
section
namespace Go.Proofs.YtendheafcbickaaGreat
open Go.RowKit
section
variable {P:Program} {n0:Nat}
def FnM (P:Program) (f:FuncId) (args:List V) (h0:List (Nat×Option Blk)) (k0:Nat) (r:V) (h1:List (Nat×Option Blk)) (k1:Nat):Prop:=
  fnOk P f=true∧k0≤k1 ∧ ∀ (F base:Nat→Prop) (w0:World) (ρ:Nat→Option Value) (w:World) (vals:Array Value),vals.size=args.length→HRel F base ρ h0 k0 w0 w→(∀ j,j<args.length→VRel ρ (Stab F ρ h0) w (cAt args j) (vals.getD j undef)) →
    Calls P f vals w fun e w'=>∃ v ρ',e = .returned v∧HRel F base ρ' h1 k1 w0 w' ∧ VRel ρ' (Stab F ρ' h1) w' r v ∧ ∀ id,id<k0→ρ' id=ρ id
def EndsM (P:Program) (fn:Func) (k0:Nat) (r:V) (h1:List (Nat×Option Blk)) (k1:Nat) (e:Exit) (st:St):Prop:=
  (e = .ret∨e = .normal) ∧ ∃ v r' L,resV P st fn.results.toList=some v∧okP k0 k1 L=true∧sv (invL L) st.heap v=some r' ∧ Wk r' r∧coverRH L st.heap h1
theorem fnm_of_run {f:FuncId} {fn:Func} {c:Code} {args:List V} {h0 h1:List (Nat×Option Blk)} {k0 k1:Nat} {r:V} (hok:fnOk P f=true) (hf:P.funcs[f]? = some fn) (hb:fn.body=some c) (hn:Nat.ble args.length fn.ntmps=true) (hk:Nat.ble k0 k1=true)
    (h:Run P k0 c ⟨paramsE 0 args,h0,k0,fn.ntmps⟩ (EndsM P fn k0 r h1 k1)):FnM P f args h0 k0 r h1 k1:=by
  refine ⟨hok,Nat.le_of_ble_eq_true hk,fun F base w0 ρ w vals hsz hH hargs=>calls_of_wp hf hb ?_⟩
  have hn:=Nat.le_of_ble_eq_true hn
  have hE:ERel ρ (Stab F ρ h0) w fn.ntmps (paramsE 0 args) { tmps:=vals++Array.replicate (fn.ntmps - vals.size) undef,defers:=[] }:=by
    refine ⟨by simp;omega,rfl,fun t v hv=>?_⟩
    obtain ⟨_,h2,rfl⟩:=paramsE_spec 0 args t v hv
    rw [Nat.sub_zero] at *
    have:=hargs t h2
    have e:(vals++Array.replicate (fn.ntmps - vals.size) undef).getD t undef=vals.getD t undef:=by
      simp [Array.getElem?_append,show t<vals.size by omega]
    rw [e]
    exact this
  refine wp_mono (h F base w0 ρ _ w hH hE) ?_
  rintro e a' w' ⟨ρ',st',⟨he,v,r',L,hv,hL,hr,hwk,hhp⟩,h1',h2,h3⟩
  obtain ⟨u,g1,g2⟩:=resV_spec (fn:=fn) h1' h2 hv
  have hren:=okP_ren hL
  have hh:=coverRH_spec hhp
  have hfin:=hwk.rel (sv_spec hren h1' hh g2 hr)
  have hres:∃ v_1 ρ'',(Exit.ret=Exit.ret→True)∧HRel F base ρ'' h1 k1 w0 w' ∧ VRel ρ'' (Stab F ρ'' h1) w' r v_1 ∧ ∀ id,id<k0→ρ'' id=ρ id:=
    ⟨u,renρ ρ' (invL L) (mpL L),fun _=>trivial,ren_heap hren h1' hh,hfin,fun id hid=>(renρ_of hren (hren.low hid)).trans (h3 id hid)⟩
  rcases he with rfl|rfl
  · exact ⟨h2.defers,u,g1,u,_,rfl,ren_heap hren h1' hh,hfin,fun id hid=>(renρ_of hren (hren.low hid)).trans (h3 id hid)⟩
  · exact ⟨h2.defers,u,g1,u,_,rfl,ren_heap hren h1' hh,hfin,fun id hid=>(renρ_of hren (hren.low hid)).trans (h3 id hid)⟩
theorem fnm_ren {f:FuncId} {args:List V} {h0 h1 h2:List (Nat×Option Blk)} {k0 k1 k2:Nat} {r r':V} (hf:FnM P f args h0 k0 r h1 k1) (L:List (Nat×Nat)) (hL:okP k0 k2 L=true) (hr:sv (invL L) h1 r=some r') (hh:coverRH L h1 h2):FnM P f args h0 k0 r' h2 k2:=
  ⟨hf.1,(okP_ren hL).le,fun F base w0 ρ w vals hsz hH hargs=>(hf.2.2 F base w0 ρ w vals hsz hH hargs).mono fun e w' ⟨v,ρ',he,q1,q2,q3⟩=>
    ⟨v,renρ ρ' (invL L) (mpL L),he,ren_heap (okP_ren hL) q1 (coverRH_spec hh),sv_spec (okP_ren hL) q1 (coverRH_spec hh) q2 hr,fun id hid=>(renρ_of (okP_ren hL) ((okP_ren hL).low hid)).trans (q3 id hid)⟩⟩
theorem fn_of_fnm {f:FuncId} {args:List V} {r:V} (hf:FnM P f args [] 0 r [] 0):Fn P f args r:=by
  refine ⟨hf.1,fun w S vals hsz hS hargs=>?_⟩
  have hstab:∀ b,Stab S (fun _=>none) [] b ↔ S b:=fun b=>⟨fun h=>h.1,fun h=>⟨h,fun id B u hB=>by simp [getH] at hB⟩⟩
  have hH:HRel S (fun b=>w.heap.size≤b) (fun _=>none) [] 0 w w:=
    { below:=Frm.refl _ _
      hbase:=fun b hb=>hb
      hF:=hS
      sup:=fun id u h=>by cases h
      inj:=fun id id' B B' u u' b h=>by cases h
      blk:=fun id B h=>by cases h }
  refine (hf.2.2 S _ w _ w vals hsz hH (fun j hj=>(hargs j hj).mono (Same.refl _ _) (fun b h _=>(hstab b).2 h) (fun _ _ h=>h))).mono ?_
  rintro e w' ⟨v,ρ',he,q1,q2,_⟩
  refine ⟨v,he,q1.below.to_below,q2.mono (Same.refl _ _) (fun b h _=>h.1) (fun id u hu=>?_)⟩
  have:=(q1.sup id u hu).1;omega
def fv (m:Nat→Nat):V→V
  | .own id=>.own (m id)
  | .ptr id i s j=>.ptr (m id) i s j
  | .agg cs=>.agg (fvL cs)
  | .tup cs=>.tup (fvL cs)
  | .clo f cs=>.clo f (fvL cs)
  | v=>v
where fvL:List V→List V
  | []=>[]
  | c :: cs=>fv m c :: fvL cs
theorem fvL_len {m:Nat→Nat}:∀ (cs:List V),(fv.fvL m cs).length=cs.length
  | []=>rfl
  | c :: cs=>by simp only [fv.fvL,List.length_cons,fvL_len cs]
theorem fvL_at {m:Nat→Nat}:∀ {cs:List V} {j:Nat},j<cs.length→cAt (fv.fvL m cs) j=fv m (cAt cs j)
  | [],j,h=>by simp at h
  | c :: cs,0,_=>rfl
  | c :: cs,j+1,h=>by
    have:=fvL_at (m:=m) (cs:=cs) (j:=j) (by simpa using h)
    simpa [cAt,fv.fvL] using this
def fB (m:Nat→Nat):Blk→Blk
  | .box t cs=>.box t (fv.fvL m cs)
  | .rox e s l=>.rox e s (l.map (fv.fvL m))
  | B=>B
theorem eAt_fmap {m:Nat→Nat} {l:List (List V)} {i:Nat} (h:i<l.length):eAt (l.map (fv.fvL m)) i=fv.fvL m (eAt l i):=by
  unfold eAt
  rw [List.getD_eq_getElem?_getD,List.getD_eq_getElem?_getD,List.getElem?_map,List.getElem?_eq_getElem h]
  rfl
theorem fB_owns {m:Nat→Nat} {B:Blk}:(fB m B).owns=B.owns:=by cases B <;> rfl
def fH (m:Nat→Nat):List (Nat×Option Blk)→List (Nat×Option Blk)
  | []=>[]
  | (id,B) :: r=>(m id,B.map (fB m)) :: fH m r
def deadM:List Nat→List (Nat×Option Blk)
  | []=>[]
  | i :: r=>(i,none) :: deadM r
theorem getH_dead:∀ (M:List Nat) (h:List (Nat×Option Blk)) (id:Nat),getH (deadM M++h) id=if id ∈ M then none else getH h id
  | [],h,id=>by simp [deadM]
  | i :: r,h,id=>by
    simp only [deadM,List.cons_append,getH_new,getH_dead r h id,List.mem_cons]
    by_cases e:i=id
    · subst e;simp
    · have e':¬ id=i:=fun h=>e h.symm
      simp [e,e']
theorem getH_fH_none {m:Nat→Nat} {k1:Nat}:∀ (h:List (Nat×Option Blk)) (H:List (Nat×Option Blk)) (x:Nat),(∀ i,i<k1→m i≠x)→(∀ p ∈ h,p.1<k1)→getH (fH m h++H) x=getH H x
  | [],H,x,_,_=>rfl
  | (id,B) :: r,H,x,hx,hk=>by
    simp only [fH,List.cons_append,getH_new]
    rw [if_neg (hx id (hk (id,B) (List.mem_cons_self ..)))]
    exact getH_fH_none r H x hx (fun p hp=>hk p (List.mem_cons_of_mem _ hp))
theorem getH_fH {m:Nat→Nat} {k1:Nat} (hinj:∀ i j,i<k1→j<k1→m i=m j→i=j):∀ (h:List (Nat×Option Blk)) (H:List (Nat×Option Blk)) (i:Nat),i<k1→(∀ p ∈ h,p.1<k1)→getH H (m i)=none→getH (fH m h++H) (m i)=(getH h i).map (fB m)
  | [],H,i,_,_,hn=>by simp [fH,getH,hn]
  | (id,B) :: r,H,i,hi,hk,hn=>by
    simp only [fH,List.cons_append,getH_new]
    by_cases e:id=i
    · subst e;simp
    · rw [if_neg (fun h=>e (hinj _ _ (hk (id,B) (List.mem_cons_self ..)) hi h)),if_neg e]
      exact getH_fH hinj r H i hi (fun p hp=>hk p (List.mem_cons_of_mem _ hp)) hn
theorem fv_down {ρ ρ':Nat→Option Value} {S S':Nat→Prop} {w:World} {m:Nat→Nat} (hS:∀ b,S b→b<w.heap.size→S' b) (hρ:∀ id u,ρ (m id)=some u→ρ' id=some u):∀ {v:V} {u:Value},VRel ρ S w (fv m v) u→VRel ρ' S' w v u:=by
  intro v u h
  generalize hx:fv m v=x at h
  induction h generalizing v with
  | @pure y u h=>
    have hv:v=y:=by
      cases h <;> cases v <;> simp only [fv] at hx <;> first|exact hx|cases hx
    subst hv
    exact .pure (h.mono (Same.refl _ _) hS)
  | own h=>cases v <;> simp only [fv] at hx <;> first|(injection hx with hx;subst hx;exact .own (hρ _ _ h))|cases hx
  | ptr h hb=>cases v <;> simp only [fv] at hx <;> first|(injection hx with h1 h2 h3 h4;subst h1 h2 h3 h4;exact .ptr (hρ _ _ h) hb)|cases hx
  | rp us hSb hc hr=>
    cases v <;> simp only [fv] at hx <;> first|(injection hx with hx;subst hx;exact .rp us (fun h=>hS _ (hSb h) (cell_lt (hc 0 h))) hc (fun j hj=>(hr j hj).mono (Same.refl _ _) hS))|cases hx
  | agg hn h ih=>
    cases v <;> simp only [fv] at hx <;> first|(injection hx with hx;subst hx;rw [fvL_len] at hn;exact .agg hn (fun j hj=>ih j (by rw [fvL_len];exact hj) (fvL_at hj).symm))|cases hx
  | tup hn h ih=>
    cases v <;> simp only [fv] at hx <;> first|(injection hx with hx;subst hx;rw [fvL_len] at hn;exact .tup hn (fun j hj=>ih j (by rw [fvL_len];exact hj) (fvL_at hj).symm))|cases hx
  | clo hn h ih=>
    cases v <;> simp only [fv] at hx <;> first|(injection hx with h1 hx;subst h1 hx;rw [fvL_len] at hn;exact .clo hn (fun j hj=>ih j (by rw [fvL_len];exact hj) (fvL_at hj).symm))|cases hx
  | any u=>cases v <;> simp only [fv] at hx <;> first|exact .any u|cases hx
  | und=>cases v <;> simp only [fv] at hx <;> first|exact .und|cases hx
theorem fv_up {ρ ρ':Nat→Option Value} {S S':Nat→Prop} {w:World} {m:Nat→Nat} (hS:∀ b,S b→b<w.heap.size→S' b) (hρ:∀ id u,ρ id=some u→ρ' (m id)=some u) {v:V} {u:Value} (h:VRel ρ S w v u):VRel ρ' S' w (fv m v) u:=by
  induction h with
  | @pure y u h=>
    have hv:fv m y=y:=by cases h <;> rfl
    rw [hv]
    exact .pure (h.mono (Same.refl _ _) hS)
  | own h=>exact .own (hρ _ _ h)
  | ptr h hb=>exact .ptr (hρ _ _ h) hb
  | rp us hSb hc hr=>exact .rp us (fun h=>hS _ (hSb h) (cell_lt (hc 0 h))) hc (fun j hj=>(hr j hj).mono (Same.refl _ _) hS)
  | agg hn h ih=>exact .agg (by rw [fvL_len];exact hn) (fun j hj=>by rw [fvL_len] at hj;rw [fvL_at hj];exact ih j hj)
  | tup hn h ih=>exact .tup (by rw [fvL_len];exact hn) (fun j hj=>by rw [fvL_len] at hj;rw [fvL_at hj];exact ih j hj)
  | clo hn h ih=>exact .clo (by rw [fvL_len];exact hn) (fun j hj=>by rw [fvL_len] at hj;rw [fvL_at hj];exact ih j hj)
  | any u=>exact .any u
  | und=>exact .und
def mM (L:List Nat) (D:Nat) (i:Nat):Nat:=L.getD i D
def nodupB:List Nat→Bool
  | []=>true
  | a :: l=>!memI l a && nodupB l
theorem memI_of:∀ {l:List Nat} {a:Nat},a ∈ l→memI l a=true
  | [],a,h=>by cases h
  | b :: l,a,h=>by
    simp only [memI,Bool.or_eq_true]
    rcases List.mem_cons.1 h with rfl|h
    · exact .inl (Nat.beq_refl _)
    · exact .inr (memI_of h)
theorem getD_in {l:List Nat} {i:Nat} (h:i<l.length):l.getD i 0 ∈ l:=by rw [List.getD_eq_getElem?_getD,List.getElem?_eq_getElem h];exact List.getElem_mem h
theorem nodupB_inj:∀ {l:List Nat},nodupB l=true → ∀ i j,i<l.length→j<l.length→l.getD i 0=l.getD j 0→i=j
  | [],_,i,j,hi,_,_=>by simp at hi
  | a :: l,h,i,j,hi,hj,he=>by
    simp only [nodupB,Bool.and_eq_true,Bool.not_eq_true'] at h
    rcases i with _|i
    · rcases j with _|j
      · rfl
      · exfalso
        have hm:a ∈ l:=by
          have:=getD_in (l:=l) (i:=j) (by simpa using hj)
          have e:a=l.getD j 0:=by simpa using he
          rw [e];exact this
        rw [memI_of hm] at h
        exact Bool.noConfusion h.1
    · rcases j with _|j
      · exfalso
        have hm:a ∈ l:=by
          have:=getD_in (l:=l) (i:=i) (by simpa using hi)
          have e:l.getD i 0=a:=by simpa using he
          rw [← e];exact this
        rw [memI_of hm] at h
        exact Bool.noConfusion h.1
      · rw [nodupB_inj h.2 i j (by simpa using hi) (by simpa using hj) (by simpa using he)]
theorem mM_inj {L:List Nat} {D:Nat} (h:nodupB L=true) {i j:Nat} (hi:i<L.length) (hj:j<L.length) (he:mM L D i=mM L D j):i=j:=by
  unfold mM at he
  refine nodupB_inj h i j hi hj ?_
  rw [List.getD_eq_getElem?_getD,List.getElem?_eq_getElem hi] at he ⊢
  rw [List.getD_eq_getElem?_getD,List.getElem?_eq_getElem hj] at he ⊢
  exact he
theorem mM_lo {M V:List Nat} {D i:Nat} (h:i<M.length):mM (M++V) D i=M.getD i 0:=by
  unfold mM
  rw [List.getD_eq_getElem?_getD,List.getD_eq_getElem?_getD,List.getElem?_append_left h,List.getElem?_eq_getElem h];rfl
theorem mM_hi {M V:List Nat} {D i:Nat} (h:M.length≤i) (h2:i<M.length+V.length):mM (M++V) D i=V.getD (i - M.length) 0:=by
  unfold mM
  rw [List.getD_eq_getElem?_getD,List.getD_eq_getElem?_getD,List.getElem?_append_right h,List.getElem?_eq_getElem (by omega)];rfl
theorem mM_out {L:List Nat} {D i:Nat} (h:L.length≤i):mM L D i=D:=by
  unfold mM
  rw [List.getD_eq_getElem?_getD,List.getElem?_eq_none h];rfl
theorem nodupB_app:∀ {M V:List Nat},nodupB (M++V)=true → ∀ x,x ∈ M→x ∈ V→False
  | [],V,_,x,h,_=>by cases h
  | a :: M,V,h,x,hx,hv=>by
    simp only [List.cons_append,nodupB,Bool.and_eq_true,Bool.not_eq_true'] at h
    rcases List.mem_cons.1 hx with rfl|hx
    · rw [memI_of (List.mem_append_right _ hv)] at h;exact Bool.noConfusion h.1
    · exact nodupB_app h.2 x hx hv
theorem nodupB_right:∀ {M V:List Nat},nodupB (M++V)=true→nodupB V=true
  | [],_,h=>h
  | a :: M,V,h=>by
    simp only [List.cons_append,nodupB,Bool.and_eq_true] at h
    exact nodupB_right h.2
def idxI:List Nat→Nat→Nat
  | [],_=>0
  | a :: l,x=>bif Nat.beq a x then 0 else idxI l x+1
theorem idxI_get:∀ {l:List Nat},nodupB l=true → ∀ i,i<l.length→idxI l (l.getD i 0)=i
  | [],_,i,hi=>by simp at hi
  | a :: l,h,0,_=>by simp [idxI]
  | a :: l,h,i+1,hi=>by
    have h':=h
    simp only [nodupB,Bool.and_eq_true,Bool.not_eq_true'] at h'
    have e:(a :: l).getD (i+1) 0=l.getD i 0:=by simp
    have hlt:i<l.length:=by simpa using hi
    rw [e]
    unfold idxI
    have hne:Nat.beq a (l.getD i 0)=false:=by
      cases hb:Nat.beq a (l.getD i 0) with
      | false=>rfl
      | true=>
        have:=Nat.eq_of_beq_eq_true hb
        rw [memI_of (by rw [this];exact getD_in hlt)] at h'
        exact absurd h'.1 (by simp)
    rw [hne,idxI_get h'.2 i hlt];rfl
theorem memI_to:∀ {l:List Nat} {a:Nat},memI l a=true→a ∈ l
  | [],a,h=>by cases h
  | b :: l,a,h=>by
    simp only [memI,Bool.or_eq_true] at h
    rcases h with h|h
    · rw [Nat.eq_of_beq_eq_true h];exact List.mem_cons_self ..
    · exact List.mem_cons_of_mem _ (memI_to h)
def coverC (m:Nat→Nat) (k0:Nat) (heap:List (Nat×Option Blk)):List (Nat×Option Blk)→Prop
  | []=>True
  | (id,none) :: r=>coverC m k0 heap r
  | (id,some B) :: r=>(Nat.blt id k0=true∧getH heap (m id)=some (fB m B))∧coverC m k0 heap r
theorem coverC_spec {m:Nat→Nat} {k0:Nat} {heap:List (Nat×Option Blk)}:∀ {e:List (Nat×Option Blk)},coverC m k0 heap e → ∀ id B,getH e id=some B→id<k0∧getH heap (m id)=some (fB m B)
  | [],_,t,v,h=>by simp [getH] at h
  | (s,none) :: r,hc,t,v,h=>by
    rw [getH_new] at h
    split at h
    · cases h
    · exact coverC_spec (e:=r) hc t v h
  | (s,some u) :: r,hc,t,v,h=>by
    rw [getH_new] at h
    split at h
    · rename_i e;subst e;injection h with h;subst h;exact ⟨Nat.le_of_ble_eq_true hc.1.1,hc.1.2⟩
    · exact coverC_spec (e:=r) hc.2 t v h
theorem fB_box {m:Nat→Nat} {t:TypeId} {cs:List V}:fB m (.box t cs) = .box t (fv.fvL m cs):=rfl
def cBase (w:World) (ρ:Nat→Option Value) (h0:List (Nat×Option Blk)) (m:Nat→Nat) (b:Nat):Prop:=w.heap.size≤b ∨ ∃ id B u,getH h0 id=some B∧B.owns=true∧ρ (m id)=some u∧blockOf u=some b
def cF (F:Nat→Prop) (w:World) (ρ:Nat→Option Value) (heap h0:List (Nat×Option Blk)) (m:Nat→Nat) (b:Nat):Prop:=Stab F ρ heap b∨cBase w ρ h0 m b
def cρ (ρ:Nat→Option Value) (k0:Nat) (m:Nat→Nat) (i:Nat):Option Value:=if i<k0 then ρ (m i) else none
theorem cρ_some {ρ:Nat→Option Value} {k0:Nat} {m:Nat→Nat} {i:Nat} {u:Value} (h:cρ ρ k0 m i=some u):i<k0∧ρ (m i)=some u:=by
  unfold cρ at h
  split at h
  · exact ⟨by assumption,h⟩
  · cases h
theorem cρ_of {ρ:Nat→Option Value} {k0:Nat} {m:Nat→Nat} {i:Nat} (h:i<k0):cρ ρ k0 m i=ρ (m i):=if_pos h
section
variable {F base:Nat→Prop} {ρ:Nat→Option Value} {heap h0:List (Nat×Option Blk)} {N D:Nat} {w0 w:World} {M V:List Nat}
theorem callee_stab (hh:∀ id B,getH h0 id=some B→id<M.length∧getH heap (mM (M++V) D id)=some (fB (mM (M++V) D) B)) {b:Nat} (h:Stab F ρ heap b):Stab (cF F w ρ heap h0 (mM (M++V) D)) (cρ ρ M.length (mM (M++V) D)) h0 b:=
  ⟨.inl h,fun id B u hB ho hu=>h.2 _ (fB (mM (M++V) D) B) u (hh id B hB).2 (by rw [fB_owns];exact ho) (cρ_some hu).2⟩
theorem callee_ρ (hV:∀ v,v ∈ V→ρ v=none) (hD:ρ D=none) {id:Nat} {u:Value} (hu:ρ (mM (M++V) D id)=some u):cρ ρ M.length (mM (M++V) D) id=some u:=by
  by_cases hi:id<M.length
  · rw [cρ_of hi];exact hu
  · exfalso
    by_cases h2:id<M.length+V.length
    · rw [mM_hi (by omega) h2,hV _ (getD_in (by omega))] at hu;cases hu
    · rw [mM_out (by rw [List.length_append];omega),hD] at hu;cases hu
theorem callee_heap (hH:HRel F base ρ heap N w0 w) (hM:nodupB (M++V)=true) (hV:∀ v,v ∈ V→ρ v=none) (hD:ρ D=none) (hh:∀ id B,getH h0 id=some B→id<M.length∧getH heap (mM (M++V) D id)=some (fB (mM (M++V) D) B)) :
    HRel (cF F w ρ heap h0 (mM (M++V) D)) (cBase w ρ h0 (mM (M++V) D)) (cρ ρ M.length (mM (M++V) D)) h0 M.length w w:=by
  have hS:∀ b,Stab F ρ heap b→b<w.heap.size→Stab (cF F w ρ heap h0 (mM (M++V) D)) (cρ ρ M.length (mM (M++V) D)) h0 b:=fun b h _=>callee_stab hh h
  refine ⟨⟨Frm.refl _ _,fun b hb=>.inl hb,fun id u hu=>⟨(cρ_some hu).1,(hH.sup _ u (cρ_some hu).2).2⟩,fun id id' B B' u u' b hB hB' ho ho' hu hu' hb hb'=>?_,fun id B hB=>?_⟩,fun b hb=>.inr hb⟩
  · have:=hH.inj _ _ _ _ _ _ b (hh id B hB).2 (hh id' B' hB').2 (by rw [fB_owns];exact ho) (by rw [fB_owns];exact ho') (cρ_some hu).2 (cρ_some hu').2 hb hb'
    exact mM_inj hM (by rw [List.length_append];have:=(hh id B hB).1;omega) (by rw [List.length_append];have:=(hh id' B' hB').1;omega) this
  · obtain ⟨hlt,hb⟩:=hh id B hB
    have hbk:=hH.blk _ _ hb
    have e:=cρ_of (ρ:=ρ) (m:=mM (M++V) D) hlt
    cases B with
    | box t cs=>
      rw [fB_box] at hbk
      obtain ⟨b,us,q1,q2,q3,q4,q5⟩:=hbk
      rw [fvL_len] at q4 q5
      refine ⟨b,us,by rw [e];exact q1,.inr ⟨id,_,_,hB,rfl,q1,rfl⟩,q3,q4,fun j hj=>⟨?_,(q5 j hj).2⟩⟩
      have:=(q5 j hj).1
      rw [fvL_at hj] at this
      exact fv_down hS (fun i u hu=>callee_ρ hV hD hu) this
    | row ty s l=>
      obtain ⟨h0',v,xs,q1,⟨q2,q2'⟩,q3,q4⟩:=hbk
      exact ⟨h0',v,xs,by rw [e];exact q1,⟨q2,fun b hb=>.inr ⟨id,_,_,hB,rfl,q1,hb⟩⟩,q3,fun i j hi hj=>by
        obtain ⟨u,hu,hp,ho⟩:=q4 i j hi hj
        exact ⟨u,hu,hp.mono (Same.refl _ _) hS,ho⟩⟩
    | fro l=>
      obtain ⟨v,q1,q2,q3⟩:=hbk
      exact ⟨v,by rw [e];exact q1,q2.mono (Same.refl _ _) hS,q3⟩
    | map q es=>
      obtain ⟨b,mes,clock,q1,q2,q3⟩:=hbk
      exact ⟨b,mes,clock,by rw [e];exact q1,.inr ⟨id,_,_,hB,rfl,q1,rfl⟩,q3⟩
    | obj o=>
      obtain ⟨b,q1,q2,q3⟩:=hbk
      exact ⟨b,by rw [e];exact q1,.inr ⟨id,_,_,hB,rfl,q1,rfl⟩,q3⟩
    | brow be bl=>
      obtain ⟨b,cap,cur,fz,q1,q2,q3⟩:=hbk
      exact ⟨b,cap,cur,fz,by rw [e];exact q1,.inr ⟨id,_,_,hB,rfl,q1,rfl⟩,q3⟩
    | rox ty s l=>
      obtain ⟨h0',v,xs,q1,⟨q2,q2'⟩,q3,q4⟩:=hbk
      rw [List.length_map] at q2 q3 q4
      have hf:∀ i,i<l.length→eAt (l.map (fv.fvL (mM (M++V) D))) i=fv.fvL (mM (M++V) D) (eAt l i):=fun i hi=>eAt_fmap hi
      have hl3:∀ i,i<l.length→(eAt l i).length=s:=fun i hi=>by have:=q3 i hi;rwa [hf i hi,fvL_len] at this
      exact ⟨h0',v,xs,by rw [e];exact q1,⟨q2,fun b hb=>.inr ⟨id,_,_,hB,rfl,q1,hb⟩⟩,hl3,fun i j hi hj=>by
        obtain ⟨u,hu,hp,ho⟩:=q4 i j hi hj
        rw [hf i hi,fvL_at (by rw [hl3 i hi];exact hj)] at hp
        exact ⟨u,hu,fv_down hS (fun i u hu=>callee_ρ hV hD hu) hp,ho⟩⟩
    | fmap q es=>
      obtain ⟨b,mes,clock,q1,q2,q3⟩:=hbk
      exact ⟨b,mes,clock,by rw [e];exact q1,hS b q2 (Array.getElem?_eq_some_iff.1 q3.1).1,q3⟩
    | iter left cur=>
      obtain ⟨r,b,mes,clock,since,seen,c0,q1,q2,q3,q4,q5⟩:=hbk
      exact ⟨r,b,mes,clock,since,seen,c0,by rw [e];exact q1,.inr ⟨id,_,_,hB,rfl,q1,rfl⟩,q3,hS b q4 (Array.getElem?_eq_some_iff.1 q5.1).1,q5⟩
def aρ (ρ ρ':Nat→Option Value) (k0:Nat) (V:List Nat) (id:Nat):Option Value:=if memI V id=true then ρ' (k0+idxI V id) else ρ id
theorem aρ_old {ρ ρ':Nat→Option Value} {k0:Nat} {V:List Nat} {id:Nat} (h:id ∉ V):aρ ρ ρ' k0 V id=ρ id:=if_neg (fun hm=>h (memI_to hm))
theorem caller_heap {h1:List (Nat×Option Blk)} {k1 N':Nat} {ρ':Nat→Option Value} {w':World} (hH:HRel F base ρ heap N w0 w) (hM:nodupB (M++V)=true) (hV:∀ v,v ∈ V→ρ v=none) (hVN:∀ v,v ∈ V→v<N') (hNN:N≤N') (hD:ρ D=none)
    (hh:∀ id B,getH h0 id=some B→id<M.length∧getH heap (mM (M++V) D id)=some (fB (mM (M++V) D) B)) (hk:k1=M.length+V.length) (hk1:∀ p ∈ h1,p.1<k1)
    (hC:HRel (cF F w ρ heap h0 (mM (M++V) D)) (cBase w ρ h0 (mM (M++V) D)) ρ' h1 k1 w w') (hρ':∀ id,id<M.length→ρ' id=cρ ρ M.length (mM (M++V) D) id) :
    HRel F base (aρ ρ ρ' M.length V) (fH (mM (M++V) D) h1++(deadM M++heap)) N' w0 w' ∧
    (∀ b,Stab F ρ heap b→b<w.heap.size→Stab F (aρ ρ ρ' M.length V) (fH (mM (M++V) D) h1++(deadM M++heap)) b) ∧
    (∀ b,Stab (cF F w ρ heap h0 (mM (M++V) D)) ρ' h1 b→b<w'.heap.size→Stab F (aρ ρ ρ' M.length V) (fH (mM (M++V) D) h1++(deadM M++heap)) b)∧Same (Stab F ρ heap) w w' ∧
    (∀ id u,ρ' id=some u→aρ ρ ρ' M.length V (mM (M++V) D id)=some u)∧(∀ id u,ρ id=some u→aρ ρ ρ' M.length V id=some u):=by
  have hlen:(M++V).length=k1:=by rw [List.length_append,hk]
  have hinj:∀ i j,i<k1→j<k1→mM (M++V) D i=mM (M++V) D j→i=j:=fun i j hi hj h=>mM_inj hM (by omega) (by omega) h
  have hsome:∀ id u,ρ id=some u→id ∉ V:=fun id u hu hv=>by rw [hV id hv] at hu;cases hu
  have hMm:∀ i,i<M.length→mM (M++V) D i ∈ M:=fun i hi=>by rw [mM_lo hi];exact getD_in hi
  have hnew:∀ i,i<k1→aρ ρ ρ' M.length V (mM (M++V) D i)=ρ' i:=fun i hi=>by
    by_cases hl:i<M.length
    · rw [aρ_old (fun hv=>nodupB_app hM _ (hMm i hl) hv),hρ' i hl,cρ_of hl]
    · have hv:mM (M++V) D i ∈ V:=by rw [mM_hi (by omega) (by omega)];exact getD_in (by omega)
      unfold aρ
      rw [if_pos (memI_of hv),mM_hi (by omega) (by omega),idxI_get (nodupB_right hM) _ (by omega)]
      congr 1;omega
  have hget:∀ id B,getH (fH (mM (M++V) D) h1++(deadM M++heap)) id=some B→(∃ i B',i<k1∧id=mM (M++V) D i∧getH h1 i=some B' ∧ B=fB (mM (M++V) D) B')∨((∀ i,i<k1→mM (M++V) D i≠id)∧id ∉ M∧getH heap id=some B):=fun id B hB=>by
    by_cases hx:∃ i,i<k1∧mM (M++V) D i=id
    · obtain ⟨i,hi,rfl⟩:=hx
      left
      have hn:getH (deadM M++heap) (mM (M++V) D i)=none:=by
        rw [getH_dead]
        by_cases hl:i<M.length
        · rw [if_pos (hMm i hl)]
        · split
          · rfl
          · cases hg:getH heap (mM (M++V) D i) with
            | none=>rfl
            | some X=>
              obtain ⟨u,hu⟩:=hH.some_of hg
              exact absurd (by rw [mM_hi (by omega) (by omega)];exact getD_in (by omega)) (hsome _ u hu)
      rw [getH_fH hinj h1 _ i hi hk1 hn] at hB
      cases hg:getH h1 i with
      | none=>rw [hg] at hB;cases hB
      | some B'=>rw [hg] at hB;injection hB with hB;exact ⟨i,B',hi,rfl,hg,hB.symm⟩
    · right
      have hx':∀ i,i<k1→mM (M++V) D i≠id:=fun i hi he=>hx ⟨i,hi,he⟩
      rw [getH_fH_none h1 _ id hx' hk1,getH_dead] at hB
      split at hB
      · cases hB
      · exact ⟨hx',by assumption,hB⟩
  have hbase:∀ b,cBase w ρ h0 (mM (M++V) D) b→base b:=fun b hb=>by
    rcases hb with hb | ⟨id,B,u,hB,ho,hu,hbb⟩
    · exact hH.hbase b hb
    · exact (hH.owned (hh id B hB).2 (by rw [fB_owns];exact ho) hu hbb).1
  have hother:∀ id B u b,(∀ i,i<k1→mM (M++V) D i≠id)→getH heap id=some B→B.owns=true→ρ id=some u→blockOf u=some b→b<w.heap.size ∧ ¬ cBase w ρ h0 (mM (M++V) D) b:=fun id B u b hne hB ho hu hbb=>by
    have hlt:=(hH.owned hB ho hu hbb).2
    refine ⟨hlt,fun hc=>?_⟩
    rcases hc with hc | ⟨id',B',u',hB',ho',hu',hbb'⟩
    · omega
    · have:=hH.inj _ _ _ _ _ _ b (hh id' B' hB').2 hB (by rw [fB_owns];exact ho') ho hu' hu hbb' hbb
      exact hne id' (by have:=(hh id' B' hB').1;omega) this
  have hnotV:∀ id B,getH heap id=some B→aρ ρ ρ' M.length V id=ρ id:=fun id B hB=>by
    obtain ⟨u,hu⟩:=hH.some_of hB
    exact aρ_old (hsome id u hu)
  have hS1:∀ b,Stab F ρ heap b→b<w.heap.size→Stab F (aρ ρ ρ' M.length V) (fH (mM (M++V) D) h1++(deadM M++heap)) b:=fun b h hlt=>by
    refine ⟨h.1,fun id B u hB ho hu hbb=>?_⟩
    rcases hget id B hB with ⟨i,B',hi,rfl,hg,rfl⟩ | ⟨hne,_,hg⟩
    · rw [hnew i hi] at hu
      rw [fB_owns] at ho
      rcases (hC.owned hg ho hu hbb).1 with hc | ⟨id',B2,u2,hB2,ho2,hu2,hb2⟩
      · omega
      · exact h.2 _ _ _ (hh id' B2 hB2).2 (by rw [fB_owns];exact ho2) hu2 hb2
    · rw [hnotV id B hg] at hu
      exact h.2 id B u hg ho hu hbb
  have hS2:∀ b,Stab (cF F w ρ heap h0 (mM (M++V) D)) ρ' h1 b→b<w'.heap.size→Stab F (aρ ρ ρ' M.length V) (fH (mM (M++V) D) h1++(deadM M++heap)) b:=fun b h hlt=>by
    refine ⟨?_,fun id B u hB ho hu hbb=>?_⟩
    · rcases h.1 with h1|h1
      · exact h1.1
      · exact hH.hF b (hbase b h1)
    · rcases hget id B hB with ⟨i,B',hi,rfl,hg,rfl⟩ | ⟨hne,_,hg⟩
      · rw [hnew i hi] at hu
        rw [fB_owns] at ho
        exact h.2 i B' u hg ho hu hbb
      · rw [hnotV id B hg] at hu
        rcases h.1 with h1|h1
        · exact h1.2 id B u hg ho hu hbb
        · exact (hother id B u b hne hg ho hu hbb).2 h1
  have hsame:Same (Stab F ρ heap) w w':=fun b h hlt=>hC.below.block b hlt (fun hc=>by
    rcases hc with hc | ⟨id,B,u,hB,ho,hu,hbb⟩
    · omega
    · exact h.2 _ _ _ (hh id B hB).2 (by rw [fB_owns];exact ho) hu hbb)
  have hup:∀ id u,ρ' id=some u→aρ ρ ρ' M.length V (mM (M++V) D id)=some u:=fun id u hu=>by rw [hnew id (hC.sup _ _ hu).1];exact hu
  have hkeep:∀ id u,ρ id=some u→aρ ρ ρ' M.length V id=some u:=fun id u hu=>by rw [aρ_old (hsome id u hu)];exact hu
  refine ⟨⟨⟨?_,fun b hb=>hH.hbase b (Nat.le_trans hC.below.size hb),?_,?_,?_⟩,hH.hF⟩,hS1,hS2,hsame,hup,hkeep⟩
  · exact hH.below.trans ⟨hC.below.os,hC.below.tape,hC.below.output,hC.below.size,fun k hk hb=>hC.below.block k hk (fun hc=>hb (hbase k hc))⟩
  · intro id u hu
    unfold aρ at hu
    split at hu
    · rename_i hm
      exact ⟨hVN _ (memI_to hm),(hC.sup _ _ hu).2⟩
    · exact ⟨Nat.lt_of_lt_of_le (hH.sup _ _ hu).1 hNN,(hH.sup _ _ hu).2⟩
  · intro id id' B B' u u' b hB hB' ho ho' hu hu' hb hb'
    rcases hget id B hB with ⟨i,X,hi,rfl,hg,rfl⟩ | ⟨hne,hnm,hg⟩
    · rw [hnew i hi] at hu
      rw [fB_owns] at ho
      rcases hget id' B' hB' with ⟨i',X',hi',rfl,hg',rfl⟩ | ⟨hne',_,hg'⟩
      · rw [hnew i' hi'] at hu'
        rw [fB_owns] at ho'
        rw [hC.inj _ _ _ _ _ _ b hg hg' ho ho' hu hu' hb hb']
      · exfalso
        rw [hnotV id' B' hg'] at hu'
        exact (hother id' B' u' b hne' hg' ho' hu' hb').2 (hC.owned hg ho hu hb).1
    · rw [hnotV id B hg] at hu
      rcases hget id' B' hB' with ⟨i',X',hi',rfl,hg',rfl⟩ | ⟨hne',_,hg'⟩
      · exfalso
        rw [hnew i' hi'] at hu'
        rw [fB_owns] at ho'
        exact (hother id B u b hne hg ho hu hb).2 (hC.owned hg' ho' hu' hb').1
      · rw [hnotV id' B' hg'] at hu'
        exact hH.inj _ _ _ _ _ _ b hg hg' ho ho' hu hu' hb hb'
  · intro id B hB
    rcases hget id B hB with ⟨i,X,hi,rfl,hg,rfl⟩ | ⟨hne,hnm,hg⟩
    · have hbk:=hC.blk i X hg
      have e:=hnew i hi
      cases X with
      | box t cs=>
        obtain ⟨b,us,q1,q2,q3,q4,q5⟩:=hbk
        exact ⟨b,us,by rw [e];exact q1,hbase b q2,q3,by rw [fvL_len];exact q4,fun j hj=>by
          rw [fvL_len] at hj
          rw [fvL_at hj]
          exact ⟨fv_up hS2 hup (q5 j hj).1,(q5 j hj).2⟩⟩
      | row ty s l=>
        obtain ⟨h0',v,xs,q1,⟨q2,q2'⟩,q3,q4⟩:=hbk
        exact ⟨h0',v,xs,by rw [e];exact q1,⟨q2,fun b hb=>hbase b (q2' b hb)⟩,q3,fun i j hi hj=>by
          obtain ⟨u,hu,hp,ho⟩:=q4 i j hi hj
          exact ⟨u,hu,hp.mono (Same.refl _ _) hS2,ho⟩⟩
      | fro l=>
        obtain ⟨v,q1,q2,q3⟩:=hbk
        exact ⟨v,by rw [e];exact q1,q2.mono (Same.refl _ _) hS2,q3⟩
      | map q es=>
        obtain ⟨b,mes,clock,q1,q2,q3⟩:=hbk
        exact ⟨b,mes,clock,by rw [e];exact q1,hbase b q2,q3⟩
      | obj o=>
        obtain ⟨b,q1,q2,q3⟩:=hbk
        exact ⟨b,by rw [e];exact q1,hbase b q2,q3⟩
      | brow be bl=>
        obtain ⟨b,cap,cur,fz,q1,q2,q3⟩:=hbk
        exact ⟨b,cap,cur,fz,by rw [e];exact q1,hbase b q2,q3⟩
      | rox ty s l=>
        obtain ⟨h0',v,xs,q1,⟨q2,q2'⟩,q3,q4⟩:=hbk
        refine ⟨h0',v,xs,by rw [e];exact q1,⟨by rw [List.length_map];exact q2,fun b hb=>hbase b (q2' b hb)⟩,fun k hk=>?_,fun k j hk hj=>?_⟩
        · rw [List.length_map] at hk
          rw [eAt_fmap hk,fvL_len];exact q3 k hk
        · rw [List.length_map] at hk
          obtain ⟨u,hu,hp,ho⟩:=q4 k j hk hj
          rw [eAt_fmap hk,fvL_at (by rw [q3 k hk];exact hj)]
          exact ⟨u,hu,fv_up hS2 hup hp,ho⟩
      | fmap q es=>
        obtain ⟨b,mes,clock,q1,q2,q3⟩:=hbk
        exact ⟨b,mes,clock,by rw [e];exact q1,hS2 b q2 (Array.getElem?_eq_some_iff.1 q3.1).1,q3⟩
      | iter left cur=>
        obtain ⟨r,b,mes,clock,since,seen,c0,q1,q2,q3,q4,q5⟩:=hbk
        exact ⟨r,b,mes,clock,since,seen,c0,by rw [e];exact q1,hbase r q2,q3,hS2 b q4 (Array.getElem?_eq_some_iff.1 q5.1).1,q5⟩
    · refine (hH.blk id B hg).mono hsame hS1 hkeep (fun ho u b hu hb hlt=>?_)
      exact hC.below.block b hlt (hother id B u b hne hg ho hu hb).2
end
theorem call_coreV {o:Oper} {st:St} {f:FuncId} {vs vs':List V} {r:V} {h0 h1:List (Nat×Option Blk)} {k1 N' D:Nat} (M V:List Nat) (hf:FnM P f vs' h0 M.length r h1 k1) (hdn:dstOk st.nt o.dst=true)
    (hw:WkL vs (fv.fvL (mM (M++V) D) vs')) (hM:nodupB (M++V)=true) (hh:coverC (mM (M++V) D) M.length st.heap h0) (hk:k1=M.length+V.length) (hk1:h1.all (fun p=>Nat.blt p.1 k1)=true) (hVN:∀ v,v ∈ V→v<N') (hNN:st.next≤N')
    {F base:Nat→Prop} {w0:World} {ρ:Nat→Option Value} {a:Act} {w:World} (hH:HRel F base ρ st.heap st.next w0 w) (hE:ERel ρ (Stab F ρ st.heap) w st.nt st.env a) (hV:∀ v,v ∈ V→ρ v=none) (hD:ρ D=none)
    {vals:Array Value} (hrun:(execOp a.eval o).run P w = .ok (.enter f vals) w) (hsz:vals.size=vs.length) (e2:∀ j,j<vs.length→VRel ρ (Stab F ρ st.heap) w (cAt vs j) (vals.getD j undef)) :
    o.wp P a w (fun a' w'=>∃ ρ',HRel F base ρ' (fH (mM (M++V) D) h1++(deadM M++st.heap)) N' w0 w' ∧ ERel ρ' (Stab F ρ' (fH (mM (M++V) D) h1++(deadM M++st.heap))) w' st.nt (st.put o.dst (fv (mM (M++V) D) r)).env a' ∧ (∀ id u,ρ id=some u→ρ' id=some u) ∧ ∀ id,id ∉ V→ρ' id=ρ id) (fun _ _ _=>False):=by
  have hh:=coverC_spec hh
  have hk1:∀ p ∈ h1,p.1<k1:=fun p hp=>Nat.le_of_ble_eq_true (List.all_eq_true.1 hk1 p hp)
  have hl:=WkL.rel (ρ:=ρ) (S:=Stab F ρ st.heap) (w:=w) hw
  rw [fvL_len] at hl
  unfold Oper.wp
  rw [hrun,Oper.upon_enter]
  refine (hf.2.2 _ _ w _ w vals (by rw [hsz,hl.1]) (callee_heap hH hM hV hD hh) (fun j hj=>?_)).mono ?_
  · have h:=hl.2 j (by omega) (e2 j (by omega))
    rw [fvL_at hj] at h
    exact fv_down (fun b h _=>callee_stab hh h) (fun i u hu=>callee_ρ hV hD hu) h
  · rintro e w' ⟨v,ρ',rfl,q1,q2,q3⟩
    obtain ⟨p1,p2,p3,p4,p5,p6⟩:=caller_heap hH hM hV hVN hNN hD hh hk hk1 q1 q3
    have hE2:=hE.mono p4 p2 p6
    refine ⟨_,p1,?_,p6,fun id hid=>aρ_old hid⟩
    have hv:=fv_up p3 p5 q2
    cases hd:o.dst with
    | none=>exact hE2
    | some d=>
      rw [hd] at hdn
      exact hE2.put (Nat.le_of_ble_eq_true hdn) hv
theorem call_core {o:Oper} {st:St} {f:FuncId} {xs:Array Operand} {ts:Array TypeId} {vs vs':List V} {r:V} {h0 h1:List (Nat×Option Blk)} {k1 N' D:Nat} (M V:List Nat) (hf:FnM P f vs' h0 M.length r h1 k1) (ho:o.op = .call { callee:=.value (.func f),args:=xs,argTypes:=ts }) (hdn:dstOk st.nt o.dst=true)
    (hx:argsE st.env xs.toList=some vs) (hw:WkL vs (fv.fvL (mM (M++V) D) vs')) (hM:nodupB (M++V)=true) (hh:coverC (mM (M++V) D) M.length st.heap h0) (hk:k1=M.length+V.length) (hk1:h1.all (fun p=>Nat.blt p.1 k1)=true) (hVN:∀ v,v ∈ V→v<N') (hNN:st.next≤N')
    {F base:Nat→Prop} {w0:World} {ρ:Nat→Option Value} {a:Act} {w:World} (hH:HRel F base ρ st.heap st.next w0 w) (hE:ERel ρ (Stab F ρ st.heap) w st.nt st.env a) (hV:∀ v,v ∈ V→ρ v=none) (hD:ρ D=none) :
    o.wp P a w (fun a' w'=>∃ ρ',HRel F base ρ' (fH (mM (M++V) D) h1++(deadM M++st.heap)) N' w0 w' ∧ ERel ρ' (Stab F ρ' (fH (mM (M++V) D) h1++(deadM M++st.heap))) w' st.nt (st.put o.dst (fv (mM (M++V) D) r)).env a' ∧ (∀ id u,ρ id=some u→ρ' id=some u) ∧ ∀ id,id ∉ V→ρ' id=ρ id) (fun _ _ _=>False):=by
  obtain ⟨e1,e2⟩:=argsE_spec hE hx
  refine call_coreV M V hf hdn hw hM hh hk hk1 hVN hNN hH hE hV hD (run_call ho hf.1 a w) (by rw [e1];simp) (fun j hj=>?_)
  have h:=e2 j hj
  have e3:(xs.toList.map a.eval).getD j undef=(xs.map a.eval).getD j undef:=by
    rw [List.getD_eq_getElem?_getD,Array.getD_eq_getD_getElem?,← Array.toList_map]
    simp
  rwa [e3] at h
def rangeN (N:Nat):Nat→List Nat
  | 0=>[]
  | n+1=>N :: rangeN (N+1) n
theorem rangeN_mem:∀ {n N v:Nat},v ∈ rangeN N n→N≤v∧v<N+n
  | 0,N,v,h=>by cases h
  | n+1,N,v,h=>by
    rcases List.mem_cons.1 h with rfl|h
    · omega
    · have:=rangeN_mem h;omega
theorem none_of_sup {ρ:Nat→Option Value} {n id:Nat} (hs:∀ id u,ρ id=some u→id<n∧u.oneCell' = true) (hid:n≤id):ρ id=none:=by
  cases hr:ρ id with
  | none=>rfl
  | some u=>have:=(hs id u hr).1;omega
theorem g_callM {o:Oper} {st:St} {f:FuncId} {xs:Array Operand} {ts:Array TypeId} {vs vs':List V} {r:V} {h0 h1:List (Nat×Option Blk)} {k1:Nat} (M:List Nat) (n:Nat) (hf:FnM P f vs' h0 M.length r h1 k1) (ho:o.op = .call { callee:=.value (.func f),args:=xs,argTypes:=ts }) (hdn:dstOk st.nt o.dst=true)
    (hx:argsE st.env xs.toList=some vs) (hw:WkL vs (fv.fvL (mM (M++rangeN st.next n) (st.next+n)) vs')) (hM:nodupB (M++rangeN st.next n)=true) (hh:coverC (mM (M++rangeN st.next n) (st.next+n)) M.length st.heap h0) (hk:k1=M.length+(rangeN st.next n).length) (hk1:h1.all (fun p=>Nat.blt p.1 k1)=true) (hn0:n0≤st.next) :
    GStep P n0 o st { env:=(st.put o.dst (fv (mM (M++rangeN st.next n) (st.next+n)) r)).env,heap:=fH (mM (M++rangeN st.next n) (st.next+n)) h1++(deadM M++st.heap),next:=st.next+n,nt:=st.nt }:=fun F base w0 ρ a w hH hE=>by
  refine upon_mono0 ?_ (call_core (N':=st.next+n) M (rangeN st.next n) hf ho hdn hx hw hM hh hk hk1 (fun v hv=>(rangeN_mem hv).2) (by omega) hH hE (fun v hv=>none_of_sup hH.sup (rangeN_mem hv).1) (none_of_sup hH.sup (by omega)))
  rintro a' w' ⟨ρ',q1,q2,q3,q4⟩
  exact ⟨ρ',q1,q2,q3,fun id hid=>q4 id (fun hv=>by have:=(rangeN_mem hv).1;omega)⟩
theorem clo_inv {ρ:Nat→Option Value} {S:Nat→Prop} {w:World} {f:FuncId} {cs:List V} {u:Value} (h:VRel ρ S w (.clo f cs) u):∃ us,u = .func (.func f) #[] us∧us.size=cs.length ∧ ∀ j,j<cs.length→VRel ρ S w (cAt cs j) (us.getD j undef):=by
  cases h with
  | pure h=>cases h
  | clo hn h=>exact ⟨_,rfl,hn,h⟩
theorem run_callv {o:Oper} {t:Tmp} {f:FuncId} {xs:Array Operand} {ts:Array TypeId} {us:Array Value} (ho:o.op = .call { callee:=.value (.tmp t),args:=xs,argTypes:=ts }) (hf:fnOk P f=true) {a:Act} (ht:a.tmps.getD t undef = .func (.func f) #[] us) (w:World) :
    (execOp a.eval o).run P w = .ok (.enter f (xs.map a.eval++us)) w:=by
  unfold fnOk at hf
  cases hfn:P.funcs[f]? with
  | none=>rw [hfn] at hf;cases hf
  | some fn=>
    rw [hfn] at hf
    simp only [Bool.and_eq_true,Bool.not_eq_true'] at hf
    obtain ⟨h1,h2⟩:=hf
    obtain ⟨c,hc⟩:=Option.isSome_iff_exists.1 h1
    unfold execOp;rw [ho]
    have hname : fn.name ≠ "runtime.NumGoroutine" := fun e => by rw [e] at h2; simp at h2
    have he:a.eval (.tmp t) = .func (.func f) #[] us:=ht
    simp [resolve,he,Deferred.ofValue,invoke,callFunc,Sem.run_bind,Sem.run_pure,program,Sem.run,hfn,hc,hname]
theorem g_callV {o:Oper} {st:St} {t:Tmp} {f:FuncId} {xs:Array Operand} {ts:Array TypeId} {vs vs' cs:List V} {r:V} {h0 h1:List (Nat×Option Blk)} {k1:Nat} (M:List Nat) (n:Nat) (hf:FnM P f vs' h0 M.length r h1 k1) (ho:o.op = .call { callee:=.value (.tmp t),args:=xs,argTypes:=ts }) (ht:getE st.env t=some (.clo f cs)) (hdn:dstOk st.nt o.dst=true)
    (hx:argsE st.env xs.toList=some vs) (hw:WkL (vs++cs) (fv.fvL (mM (M++rangeN st.next n) (st.next+n)) vs')) (hM:nodupB (M++rangeN st.next n)=true) (hh:coverC (mM (M++rangeN st.next n) (st.next+n)) M.length st.heap h0) (hk:k1=M.length+(rangeN st.next n).length) (hk1:h1.all (fun p=>Nat.blt p.1 k1)=true) (hn0:n0≤st.next) :
    GStep P n0 o st { env:=(st.put o.dst (fv (mM (M++rangeN st.next n) (st.next+n)) r)).env,heap:=fH (mM (M++rangeN st.next n) (st.next+n)) h1++(deadM M++st.heap),next:=st.next+n,nt:=st.nt }:=fun F base w0 ρ a w hH hE=>by
  obtain ⟨e1,e2⟩:=argsE_spec hE hx
  obtain ⟨us,q1,q2,q3⟩:=clo_inv (hE.slot t _ ht)
  refine upon_mono0 ?_ (call_coreV (N':=st.next+n) (vs:=vs++cs) M (rangeN st.next n) hf hdn hw hM hh hk hk1 (fun v hv=>(rangeN_mem hv).2) (by omega) hH hE (fun v hv=>none_of_sup hH.sup (rangeN_mem hv).1) (none_of_sup hH.sup (by omega)) (run_callv ho hf.1 q1 w) (by simp [e1,q2]) (fun j hj=>?_))
  · rintro a' w' ⟨ρ',q1,q2,q3,q4⟩
    exact ⟨ρ',q1,q2,q3,fun id hid=>q4 id (fun hv=>by have:=(rangeN_mem hv).1;omega)⟩
  · have hsz:(xs.map a.eval).size=vs.length:=by rw [e1];simp
    by_cases hlt:j<vs.length
    · have h:=e2 j hlt
      have e3:(xs.toList.map a.eval).getD j undef=(xs.map a.eval++us).getD j undef:=by
        rw [List.getD_eq_getElem?_getD,Array.getD_eq_getD_getElem?,Array.getElem?_append_left (by omega),← Array.toList_map]
        simp
      have e4:cAt (vs++cs) j=cAt vs j:=by unfold cAt;rw [List.getD_eq_getElem?_getD,List.getD_eq_getElem?_getD,List.getElem?_append_left hlt]
      rw [e3] at h
      rwa [e4]
    · rw [List.length_append] at hj
      have h:=q3 (j - vs.length) (by omega)
      have e3:us.getD (j - vs.length) undef=(xs.map a.eval++us).getD j undef:=by
        rw [Array.getD_eq_getD_getElem?,Array.getD_eq_getD_getElem?,Array.getElem?_append_right (by omega),hsz]
      have e4:cAt (vs++cs) j=cAt cs (j - vs.length):=by unfold cAt;rw [List.getD_eq_getElem?_getD,List.getD_eq_getElem?_getD,List.getElem?_append_right (by omega)]
      rw [e3] at h
      rwa [e4]
theorem q_makeFunc {G:List Nat} {o:Oper} {st:St} {f:FuncId} {xs:Array Operand} {vs:List V} (ho:o.op = .makeFunc (.func f) #[] xs) (hx:argsE st.env xs.toList=some vs):QStep P G o st (.clo f vs):=
  q_of_run fun F base w0 ρ a w hH hE=>by
    obtain ⟨e1,e2⟩:=argsE_spec hE hx
    refine ⟨.func (.func f) #[] (xs.map a.eval),.clo (by rw [e1];simp) (fun j hj=>?_),fun w'=>?_⟩
    · have h:=e2 j hj
      have e3:(xs.toList.map a.eval).getD j undef=(xs.map a.eval).getD j undef:=by
        rw [List.getD_eq_getElem?_getD,Array.getD_eq_getD_getElem?,← Array.toList_map]
        simp
      rwa [e3] at h
    · unfold execOp;rw [ho];simp [Instr.makeFunc,Sem.run_bind,Sem.run_pure]
theorem a_callM {k:Nat} {o:Oper} {st:St} {f:FuncId} {xs:Array Operand} {ts:Array TypeId} {vs vs':List V} {r:V} {h0 h1:List (Nat×Option Blk)} {k1:Nat} (M:List Nat) (hf:FnM P f vs' h0 M.length r h1 k1) (ho:o.op = .call { callee:=.value (.func f),args:=xs,argTypes:=ts }) (hdn:dstOk st.nt o.dst=true)
    (hx:argsE st.env xs.toList=some vs) (hw:WkL vs (fv.fvL (mM (M++[k]) st.next) vs')) (hM:nodupB (M++[k])=true) (hh:coverC (mM (M++[k]) st.next) M.length st.heap h0) (hk:k1=M.length+1) (hk1:h1.all (fun p=>Nat.blt p.1 k1)=true) :
    GAt P k o st { env:=(st.put o.dst (fv (mM (M++[k]) st.next) r)).env,heap:=fH (mM (M++[k]) st.next) h1++(deadM M++st.heap),next:=st.next,nt:=st.nt }:=fun F base w0 ρ a w hH hE hnn hkn=>by
  refine upon_mono0 ?_ (call_core (N':=st.next) M [k] hf ho hdn hx hw hM hh hk hk1 (fun v hv=>by rw [List.mem_singleton.1 hv];exact hkn) (Nat.le_refl _) hH hE (fun v hv=>by rw [List.mem_singleton.1 hv];exact hnn) (none_of_sup hH.sup (Nat.le_refl _)))
  rintro a' w' ⟨ρ',q1,q2,q3,q4⟩
  exact ⟨ρ',q1,q2,q3,fun id hid=>q4 id (fun hv=>hid (List.mem_singleton.1 hv))⟩
end
end Go.Proofs.YtendheafcbickaaGreat
end
section
namespace Go.Proofs.YtendheafcbickaaGreat
open Go.RowKit
theorem mM0 {a D:Nat} {l:List Nat}:mM (a :: l) D 0=a:=rfl
theorem mM1 {a b D:Nat} {l:List Nat}:mM (a :: b :: l) D 1=b:=rfl
theorem mM2 {a b c D:Nat} {l:List Nat}:mM (a :: b :: c :: l) D 2=c:=rfl
theorem mM3 {a b c d D:Nat} {l:List Nat}:mM (a :: b :: c :: d :: l) D 3=d:=rfl
theorem mM4 {a b c d e D:Nat} {l:List Nat}:mM (a :: b :: c :: d :: e :: l) D 4=e:=rfl
theorem mM5 {a b c d e f D:Nat} {l:List Nat}:mM (a :: b :: c :: d :: e :: f :: l) D 5=f:=rfl
theorem mM6 {a b c d e f g D:Nat} {l:List Nat}:mM (a :: b :: c :: d :: e :: f :: g :: l) D 6=g:=rfl
theorem mM7 {a b c d e f g h D:Nat} {l:List Nat}:mM (a :: b :: c :: d :: e :: f :: g :: h :: l) D 7=h:=rfl
section
variable {P:Program} {o:Oper} {n0:Nat} {ops:List Oper} {rest:List Oper} {env:List (Nat×V)} {heap:List (Nat×Option Blk)} {next nt:Nat} {Q:St→Prop}
theorem s_callM {f:FuncId} {xs:Array Operand} {ts:Array TypeId} {vs vs':List V} {r r':V} {h0 h1 heap':List (Nat×Option Blk)} {k1 d next':Nat} {L:List Nat} (M:List Nat) (hf:FnM P f vs' h0 M.length r h1 k1) (ho:o.op = .call { callee:=.value (.func f),args:=xs,argTypes:=ts }:=by rfl)
    (hg:guardV env ops o.guard=some true:=by rfl) (hd:o.dst=some d:=by rfl) (hdn:Nat.blt d nt=true:=by rfl) (hx:argsE env xs.toList=some vs:=by rfl)
    (hL:M++rangeN next (k1 - M.length)=L:=by (simp only [rangeN,List.length_cons,List.length_nil,Nat.reduceSub,Nat.reduceAdd,List.cons_append,List.nil_append,List.append_nil];rfl))
    (hn:next+(k1 - M.length)=next':=by (simp only [List.length_cons,List.length_nil,Nat.reduceSub,Nat.reduceAdd,Nat.add_zero];rfl))
    (hw : WkL vs (fv.fvL (mM L next') vs') := by ((repeat' (first | exact WkL.nil | refine WkL.cons ?_ ?_ | exact Wk.refl _ | exact Wk.nil | refine Wk.agg ?_ | refine Wk.tup ?_)); first | done | fail "args"))
    (hM : nodupB L = true := by rfl) (hh : coverC (mM L next') M.length heap h0 := by ((repeat' (first | exact True.intro | exact rfl | refine And.intro ?_ ?_)); first | done | fail "mem")) (hk : k1 = M.length + (rangeN next (k1 - M.length)).length := by rfl) (hk1 : h1.all (fun p => Nat.blt p.1 k1) = true := by rfl) (hn0 : Nat.ble n0 next = true := by rfl)
    (hr:fv (mM L next') r=r':=by first|(simp only [fv,fv.fvL,mM0,mM1,mM2,mM3,mM4,mM5,mM6,mM7];rfl)|rfl)
    (hH:fH (mM L next') h1++(deadM M++heap)=heap':=by (simp only [fH,fB,fv,fv.fvL,deadM,Option.map_some,Option.map_none,List.cons_append,List.nil_append,mM0,mM1,mM2,mM3,mM4,mM5,mM6,mM7];rfl))
    (h:RunL P n0 ops.toArray rest ⟨(d,r') :: env,heap',next',nt⟩ Q):RunL P n0 ops.toArray (o :: rest) ⟨env,heap,next,nt⟩ Q:=by
  subst hL hn hr hH
  have hs:=g_callM (n0:=n0) (st:=⟨env,heap,next,nt⟩) M (k1 - M.length) hf ho (by rw [hd];exact hdn) hx hw hM hh hk hk1 (Nat.le_of_ble_eq_true hn0)
  rw [hd] at hs
  exact l_g hg hs h
theorem s_callV {t:Tmp} {cs:List V} {f:FuncId} {xs:Array Operand} {ts:Array TypeId} {vs vs':List V} {r r':V} {h0 h1 heap':List (Nat×Option Blk)} {k1 d next':Nat} {L:List Nat} (M:List Nat) (hf:FnM P f vs' h0 M.length r h1 k1) (ho:o.op = .call { callee:=.value (.tmp t),args:=xs,argTypes:=ts }:=by rfl)
    (ht:getE env t=some (.clo f cs):=by rfl) (hg:guardV env ops o.guard=some true:=by rfl) (hd:o.dst=some d:=by rfl) (hdn:Nat.blt d nt=true:=by rfl) (hx:argsE env xs.toList=some vs:=by rfl)
    (hL:M++rangeN next (k1 - M.length)=L:=by (simp only [rangeN,List.length_cons,List.length_nil,Nat.reduceSub,Nat.reduceAdd,List.cons_append,List.nil_append,List.append_nil];rfl))
    (hn:next+(k1 - M.length)=next':=by (simp only [List.length_cons,List.length_nil,Nat.reduceSub,Nat.reduceAdd,Nat.add_zero];rfl))
    (hw : WkL (vs ++ cs) (fv.fvL (mM L next') vs') := by ((repeat' (first | exact WkL.nil | refine WkL.cons ?_ ?_ | exact Wk.refl _ | exact Wk.nil | refine Wk.agg ?_ | refine Wk.tup ?_)); first | done | fail "args"))
    (hM : nodupB L = true := by rfl) (hh : coverC (mM L next') M.length heap h0 := by ((repeat' (first | exact True.intro | exact rfl | refine And.intro ?_ ?_)); first | done | fail "mem")) (hk : k1 = M.length + (rangeN next (k1 - M.length)).length := by rfl) (hk1 : h1.all (fun p => Nat.blt p.1 k1) = true := by rfl) (hn0 : Nat.ble n0 next = true := by rfl)
    (hr:fv (mM L next') r=r':=by first|(simp only [fv,fv.fvL,mM0,mM1,mM2,mM3,mM4,mM5,mM6,mM7];rfl)|rfl)
    (hH:fH (mM L next') h1++(deadM M++heap)=heap':=by (simp only [fH,fB,fv,fv.fvL,deadM,Option.map_some,Option.map_none,List.cons_append,List.nil_append,mM0,mM1,mM2,mM3,mM4,mM5,mM6,mM7];rfl))
    (h:RunL P n0 ops.toArray rest ⟨(d,r') :: env,heap',next',nt⟩ Q):RunL P n0 ops.toArray (o :: rest) ⟨env,heap,next,nt⟩ Q:=by
  subst hL hn hr hH
  have hs:=g_callV (n0:=n0) (st:=⟨env,heap,next,nt⟩) M (k1 - M.length) hf ho ht (by rw [hd];exact hdn) hx hw hM hh hk hk1 (Nat.le_of_ble_eq_true hn0)
  rw [hd] at hs
  exact l_g hg hs h
theorem s_func {f:FuncId} {xs:Array Operand} {vs:List V} {d:Nat} (ho:o.op = .makeFunc (.func f) #[] xs:=by rfl) (hx:argsE env xs.toList=some vs:=by rfl) (hg:guardV env ops o.guard=some true:=by rfl) (hd:o.dst=some d:=by rfl) (hdn:Nat.blt d nt=true:=by rfl) (h:RunL P n0 ops.toArray rest ⟨(d,.clo f vs) :: env,heap,next,nt⟩ Q):RunL P n0 ops.toArray (o :: rest) ⟨env,heap,next,nt⟩ Q:=
  x_q hg hd hdn (q_makeFunc ho hx) h
theorem s_lens {x:Operand} {t:TypeId} {l:List UInt8} {d:Nat} (ho:o.op = .call { callee:=.builtin .len,args:=#[x],argTypes:=#[t] }:=by rfl) (hx:opE env x=some (.lit (.string (strB l))):=by rfl)
    (ht:P.underlying t=some .string:=by rfl) (hg:guardV env ops o.guard=some true:=by rfl) (hd:o.dst=some d:=by rfl) (hdn:Nat.blt d nt=true:=by rfl) (h:RunL P n0 ops.toArray rest ⟨(d,.lit (.int .i64 l.length)) :: env,heap,next,nt⟩ Q):RunL P n0 ops.toArray (o :: rest) ⟨env,heap,next,nt⟩ Q:=by
  refine x_q hg hd hdn ?_ h
  have:=q_len_str (P:=P) (G:=[]) (st:=⟨env,heap,next,nt⟩) ho hx ht
  rw [strB_size] at this
  exact this
end
section
variable {P:Program} {o:Oper} {nt b0 k k':Nat} {ops:List Oper} {W:Nat→Nat→Bool} {rest:List Oper} {env:List (Nat×V)} {heap:List (Nat×Option Blk)} {Q:St→Prop}
theorem p_lens {x:Operand} {t:TypeId} {l:List UInt8} {d:Nat} (ho:o.op = .call { callee:=.builtin .len,args:=#[x],argTypes:=#[t] }:=by rfl) (hx:opE (lk (looks ops o) env) x=some (.lit (.string (strB l))):=by rfl)
    (ht:P.underlying t=some .string:=by rfl) (hg:guardV (lk (looks ops o) env) ops o.guard=some true:=by rfl) (hd:o.dst=some d:=by rfl) (hdn:Nat.blt d nt=true:=by rfl) (hk:k+1=k':=by (simp only [Nat.reduceAdd];rfl)) (hb:Nat.ble b0 k=true:=by rfl)
    (h:PL P nt b0 ops W k' rest ((d,.lit (.int .i64 l.length)) :: env) heap Q):PL P nt b0 ops W k (o :: rest) env heap Q:=by
  refine y_q hg hd hdn hb hk (fun N=>?_) h
  have:=q_len_str (P:=P) (G:=[]) (st:=⟨lk (looks ops o) env,[],N,nt⟩) ho hx ht
  rw [strB_size] at this
  exact this
end
theorem q_index_agg {P:Program} {G:List Nat} {o:Oper} {st:St} {T e N n:Nat} {x y:Operand} {cs:List V} {k:IntKind} {m:Int} (ho:o.op = .index T x y) (hx:opE st.env x=some (.agg cs)) (hy:opE st.env y=some (.lit (.int k m)))
    (hm:m=(n:Int)) (hT:P.underlying T=some (.array N e)) (hn:n<N) (hc:n<cs.length) (ha:aggT P e=some false) (hs:sizeT P e=some 1):QStep P G o st (cAt cs n):=
  q_of_run fun F base w0 ρ a w hH hE=>by
    subst hm
    obtain ⟨us,e1,e2,e3⟩:=agg_inv (opE_sound hE hx)
    refine ⟨us.getD n undef,e3 n hc,fun w'=>?_⟩
    unfold execOp;rw [ho];simp only [];rw [e1,lit_inv (opE_sound hE hy)]
    have hu:us[n]? = some (us.getD n undef):=by rw [Array.getD_eq_getD_getElem?,Array.getElem?_eq_getElem (by omega)];rfl
    generalize us.getD n undef=u at hu
    simp [Instr.index,asIntOf,run_underlying hT,Sem.run_bind,Sem.run_pure,hn,run_sizeT hs,part,run_aggT ha,hu]
section
variable {P:Program} {o:Oper} {n0:Nat} {ops:List Oper} {rest:List Oper} {env:List (Nat×V)} {heap:List (Nat×Option Blk)} {next nt:Nat} {Q:St→Prop}
theorem s_ixa {T e N n d:Nat} {x y:Operand} {cs:List V} {k:IntKind} {m:Int} {v:V} (ho:o.op = .index T x y:=by rfl) (hx:opE env x=some (.agg cs):=by rfl) (hy:opE env y=some (.lit (.int k m)):=by rfl)
    (hm:m=(n:Int):=by first|exact lit0|exact lit1|exact lit2|exact lit3|rfl) (hT:P.underlying T=some (.array N e):=by rfl) (hn:Nat.blt n N=true:=by rfl) (hv:cs[n]? = some v:=by rfl) (ha:aggT P e=some false:=by rfl) (hs:sizeT P e=some 1:=by rfl)
    (hg:guardV env ops o.guard=some true:=by rfl) (hd:o.dst=some d:=by rfl) (hdn:Nat.blt d nt=true:=by rfl) (h:RunL P n0 ops.toArray rest ⟨(d,v) :: env,heap,next,nt⟩ Q):RunL P n0 ops.toArray (o :: rest) ⟨env,heap,next,nt⟩ Q:=by
  refine x_q hg hd hdn ?_ h
  have:=q_index_agg (P:=P) (G:=[]) (st:=⟨env,heap,next,nt⟩) ho hx hy hm hT (Nat.le_of_ble_eq_true hn) (List.getElem?_eq_some_iff.1 hv).1 ha hs
  have e:cAt cs n=v:=by unfold cAt;rw [List.getD_eq_getElem?_getD,hv];rfl
  rw [e] at this
  exact this
end
section
variable {P:Program} {o:Oper} {n0:Nat} {ops:List Oper} {rest:List Oper} {env:List (Nat×V)} {heap:List (Nat×Option Blk)} {next nt:Nat} {Q:St→Prop}
end
def ownOf:V→Option Nat
  | .own id=>some id
  | .agg cs=>ownL cs
  | _=>none
where ownL:List V→Option Nat
  | []=>none
  | c :: cs=>match ownOf c with
    | some id=>some id
    | none=>ownL cs
section
variable {P:Program} {o:Oper} {n0:Nat} {ops:List Oper} {rest:List Oper} {env:List (Nat×V)} {heap:List (Nat×Option Blk)} {next nt:Nat} {Q:St→Prop}
theorem s_snap {f:FuncId} {xs:Array Operand} {ts:Array TypeId} {vs vs':List V} {r:V} {d:Nat} (hf:Fn P f vs' r) (ho:o.op = .call { callee:=.value (.func f),args:=xs,argTypes:=ts }:=by rfl) (hg:guardV env ops o.guard=some true:=by rfl) (hd:o.dst=some d:=by rfl) (hdn:Nat.blt d nt=true:=by rfl)
    (hx:argsE env xs.toList=some vs:=by rfl) (hs:snapV.snapL heap vs=some vs':=by rfl) (hr:flatV r=true:=by rfl) (h:RunL P n0 ops.toArray rest ⟨(d,r) :: env,heap,next,nt⟩ Q):RunL P n0 ops.toArray (o :: rest) ⟨env,heap,next,nt⟩ Q:=by
  have:=g_call_snap (P:=P) (n0:=n0) (st:=⟨env,heap,next,nt⟩) ho (by rw [hd];exact hdn) hx hs hf hr
  rw [hd] at this
  exact l_g hg this h
end
section
variable {P:Program} {o:Oper} {nt b0 k k':Nat} {ops:List Oper} {W:Nat→Nat→Bool} {rest:List Oper} {env:List (Nat×V)} {heap:List (Nat×Option Blk)} {Q:St→Prop}
theorem p_snapO {f:FuncId} {xs:Array Operand} {ts:Array TypeId} {vs vs':List V} {r:V} {d id:Nat} {B:Blk} (hf:Fn P f vs' r) (ho:o.op = .call { callee:=.value (.func f),args:=xs,argTypes:=ts }:=by rfl) (hg:guardV (lk (looks ops o) env) ops o.guard=some true:=by rfl) (hd:o.dst=some d:=by rfl) (hdn:Nat.blt d nt=true:=by rfl)
    (hx:argsE (lk (looks ops o) env) xs.toList=some vs:=by rfl) (hid:ownOf.ownL vs=some id:=by rfl) (hB:getH heap id=some B:=by rfl) (hs:snapV.snapL [(id,some B)] vs=some vs':=by rfl) (hr:flatV r=true:=by rfl) (hk:k+1=k':=by (simp only [Nat.reduceAdd];rfl)) (hb:Nat.ble b0 k=true:=by rfl) (hv:vis ops W b0 (k - b0) id=true:=by kernel_rfl) (h:PL P nt b0 ops W k' rest ((d,r) :: env) heap Q):PL P nt b0 ops W k (o :: rest) env heap Q:=
  p_snap hf ho hg hd hdn hx hB hs hr hk hb hv h
end
section
variable {P:Program} {st:St}
theorem endm_ {fn:Func} {n0 k1:Nat} {r r' v:V} {h1:List (Nat×Option Blk)} {e:Exit} {L:List (Nat×Nat)} (he:e = .ret∨e = .normal:=by first|exact .inl rfl|exact .inr rfl) (hv:resV P st fn.results.toList=some v:=by rfl) (hN:NormP (pairs n0 ⟨[(0,v)],st.heap,0,0⟩ ⟨[(0,r)],h1,k1,0⟩) L:=by repeat' (first|exact NormP.nil|apply NormP.cons)) (hL:okP n0 k1 L=true:=by rfl) (hs:sv (invL L) st.heap v=some r':=by rfl) (hr:Wk r' r) (hh:coverRH L st.heap h1):EndsM P fn n0 r h1 k1 e st:=
  ⟨he,v,r',L,hv,hL,hs,hr,hh⟩
end
end Go.Proofs.YtendheafcbickaaGreat
end
section
namespace Go.Proofs.YtendheafcbickaaGreat
open Go.RowKit Go.ChangeMaps
def kindD:Option IntKind→TypeDesc
  | some q=>.int q
  | none=>.string
def kEq:Value→Value→Bool
  | .int _ a,.int _ b=>a == b
  | .string a,.string b=>a == b
  | _,_=>false
def mlook (k:Value):List (Value×Value)→Option Value
  | []=>none
  | p :: r=>bif kEq k p.1 then some p.2 else mlook k r
def mput (k v:Value):List (Value×Value)→List (Value×Value)
  | []=>[(k,v)]
  | p :: r=>bif kEq k p.1 then (k,v) :: r else p :: mput k v r
theorem keyOk_cases {q:Option IntKind} {v:Value} (h:keyOk q v=true):(∃ k a,q=some k∧v = .int k a)∨(∃ s,q=none∧v = .string s):=by
  cases q with
  | none=>cases v <;> simp [keyOk] at h;exact .inr ⟨_,rfl,rfl⟩
  | some q=>cases v <;> simp [keyOk] at h;subst h;exact .inl ⟨_,_,rfl,rfl⟩
theorem sameNow_ok {q:Option IntKind} {k p:Value} (hk:keyOk q k=true) (hp:keyOk q p=true):Instr.sameNow (kindD q) k p=some (kEq k p):=by
  rcases keyOk_cases hk with ⟨k1,a,rfl,rfl⟩ | ⟨s,rfl,rfl⟩
  · rcases keyOk_cases hp with ⟨k2,b,e,rfl⟩ | ⟨s,e,_⟩
    · injection e with e;subst e
      simp [Instr.sameNow,kindD,kEq]
    · cases e
  · rcases keyOk_cases hp with ⟨k2,b,e,rfl⟩ | ⟨t,_,rfl⟩
    · cases e
    · simp [Instr.sameNow,kindD,kEq]
theorem kEq_same {q:Option IntKind} {k p:Value} (hk:keyOk q k=true) (hp:keyOk q p=true) (h:kEq k p=true):p=k:=by
  rcases keyOk_cases hk with ⟨k1,a,rfl,rfl⟩ | ⟨s,rfl,rfl⟩
  · rcases keyOk_cases hp with ⟨k2,b,e,rfl⟩ | ⟨s,e,_⟩
    · injection e with e;subst e
      simp only [kEq,beq_iff_eq] at h
      rw [h]
    · cases e
  · rcases keyOk_cases hp with ⟨k2,b,e,rfl⟩ | ⟨t,_,rfl⟩
    · cases e
    · simp only [kEq,MapKept.bytes_beq] at h
      rw [h]
theorem sameBits_refl {q:Option IntKind} {k:Value} (hk:keyOk q k=true):Instr.sameBits 10000 k k=true:=by
  rcases keyOk_cases hk with ⟨k1,a,rfl,rfl⟩ | ⟨s,rfl,rfl⟩
  · simp [Instr.sameBits]
  · simp [Instr.sameBits,(MapKept.bytes_beq s s).2 rfl]
theorem findNow_ok {q:Option IntKind} {k v:Value} (hk:keyOk q k=true):∀ (mes:List MapEntry) (i:Nat),(∀ e,e ∈ mes→keyOk q e.key=true) →
    (mlook k (mes.map kvE)=none∧Instr.findNow (kindD q) k mes i=some none∧mput k v (mes.map kvE)=mes.map kvE++[(k,v)]) ∨
    ∃ n x e,mes[n]? = some e∧e.key=k∧mlook k (mes.map kvE)=some x∧Instr.findNow (kindD q) k mes i=some (some (i+n,x))∧(mes.modify n fun e=>{ e with key:=k,val:=v }).map kvE=mput k v (mes.map kvE)
  | [],i,_=>.inl ⟨rfl,rfl,rfl⟩
  | e :: mes,i,h=>by
    have he:=sameNow_ok hk (h e List.mem_cons_self)
    cases hb:kEq k e.key with
    | true=>
      refine .inr ⟨0,e.val,e,rfl,kEq_same hk (h e List.mem_cons_self) hb,?_,?_,?_⟩
      · simp only [List.map_cons,mlook,hb,cond_true]
      · simp only [Instr.findNow,he,hb]
        rfl
      · simp only [List.map_cons,mput,hb,cond_true]
        rfl
    | false=>
      rcases findNow_ok (v:=v) hk mes (i+1) (fun e h'=>h e (List.mem_cons_of_mem _ h')) with ⟨h1,h2,h3⟩ | ⟨n,x,e',h1,h2,h3,h4,h5⟩
      · refine .inl ⟨?_,?_,?_⟩
        · simp only [List.map_cons,mlook,hb,cond_false];exact h1
        · simp only [Instr.findNow,he,hb];exact h2
        · simp only [List.map_cons,mput,hb,cond_false,h3,List.cons_append]
      · refine .inr ⟨n+1,x,e',by simpa using h1,h2,?_,?_,?_⟩
        · simp only [List.map_cons,mlook,hb,cond_false];exact h3
        · simp only [Instr.findNow,he,hb];rw [h4];congr 3;omega
        · simp only [List.map_cons,mput,hb,cond_false,List.modify_succ_cons]
          rw [h5]
theorem mput_keys {q:Option IntKind} {k v:Value} (hk:keyOk q k=true) (hv:v.oneCell' = true):∀ (es:List (Value×Value)),(∀ p,p ∈ es→keyOk q p.1=true∧p.2.oneCell' = true) → ∀ p,p ∈ mput k v es→keyOk q p.1=true∧p.2.oneCell' = true
  | [],_,p,hp=>by
    simp only [mput,List.mem_singleton] at hp
    subst hp;exact ⟨hk,hv⟩
  | e :: es,h,p,hp=>by
    simp only [mput] at hp
    cases hb:kEq k e.1 with
    | true=>
      rw [hb] at hp
      rcases List.mem_cons.1 hp with rfl|hp
      · exact ⟨hk,hv⟩
      · exact h p (List.mem_cons_of_mem _ hp)
    | false=>
      rw [hb] at hp
      rcases List.mem_cons.1 hp with rfl|hp
      · exact h _ List.mem_cons_self
      · exact mput_keys hk hv es (fun p hp=>h p (List.mem_cons_of_mem _ hp)) p hp
theorem run_checkKey {P:Program} {q:Option IntKind} {kt:TypeId} {k:Value} {b:Bool} (hkt:P.underlying kt=some (kindD q)) (hk:keyOk q k=true) (w:World):(Instr.checkKey b 10000 kt k).run P w = .ok () w:=by
  unfold Instr.checkKey
  simp only [Sem.run_bind,run_underlying hkt]
  rcases keyOk_cases hk with ⟨k1,a,rfl,rfl⟩ | ⟨s,rfl,rfl⟩ <;> rfl
section
variable {P:Program} {o:Oper} {n0:Nat} {st:St} {G:List Nat}
theorem run_look {T kt et:TypeId} {q:Option IntKind} {b clock:Nat} {mes:Array MapEntry} {k z:Value} {ok:Bool} {w:World} (hT:P.underlying T=some (.map kt et)) (hkt:P.underlying kt=some (kindD q)) (h:w.heap[b]? = some (.map mes clock)) (hk:keyOk q k=true)
    (hes:∀ e,e ∈ mes.toList→keyOk q e.key=true) (hz:(zeroValue et).run P w = .ok z w) :
    (Instr.lookup T (.map (some b)) k ok).run P w = .ok (if ok then .tuple #[(mlook k (mes.toList.map kvE)).getD z,.bool (mlook k (mes.toList.map kvE)).isSome] else (mlook k (mes.toList.map kvE)).getD z) w:=by
  rcases findNow_ok (v:=k) hk mes.toList 0 hes with ⟨h1,h2,_⟩ | ⟨n,x,e,_,_,h1,h2,_⟩
  · cases ok <;> simp [Instr.lookup,Instr.findKey,run_underlying hT,run_underlying hkt,MapKept.run_getObj_map h,run_checkKey hkt hk,h1,h2,hz,Sem.run_bind,Sem.run_pure,Result.andThen]
  · cases ok <;> simp [Instr.lookup,Instr.findKey,run_underlying hT,run_underlying hkt,MapKept.run_getObj_map h,run_checkKey hkt hk,h1,h2,hz,Sem.run_bind,Sem.run_pure,Result.andThen]
theorem born_modify {k v:Value}:∀ {l:List MapEntry} (n:Nat),(l.modify n fun e=>{ e with key:=k,val:=v }).map (·.born)=l.map (·.born)
  | [],n=>by cases n <;> rfl
  | e :: l,0=>rfl
  | e :: l,n+1=>by simp only [List.modify_succ_cons,List.map_cons,born_modify n]
theorem run_mput {T kt et:TypeId} {q:Option IntKind} {b clock:Nat} {mes:Array MapEntry} {k v:Value} {w:World} (hT:P.underlying T=some (.map kt et)) (hkt:P.underlying kt=some (kindD q)) (h:w.heap[b]? = some (.map mes clock)) (hk:keyOk q k=true)
    (hes:∀ e,e ∈ mes.toList→keyOk q e.key=true) :
    ∃ mes' clock',(Instr.mapUpdate T (.map (some b)) k v).run P w = .ok () (setBlock w b (.map mes' clock'))∧mes'.toList.map kvE=mput k v (mes.toList.map kvE)∧(Births mes clock→Births mes' clock'):=by
  rcases findNow_ok (v:=v) hk mes.toList 0 hes with ⟨h1,h2,h3⟩ | ⟨n,x,e,g1,g2,h1,h2,h3⟩
  · refine ⟨mes.push { key:=k,val:=v,born:=clock },clock+1,?_,?_⟩
    · simp [Instr.mapUpdate,Instr.findKey,run_underlying hT,run_underlying hkt,MapKept.run_getObj_map h,run_checkKey hkt hk,h1,h2,Sem.run_bind,Sem.run_pure,Result.andThen,MapKept.run_setObj_map _ h,setBlock]
    · refine ⟨by rw [h3];simp,fun hb=>⟨?_,fun e he=>?_⟩⟩
      · rw [Array.toList_push,List.map_append,List.nodup_append]
        refine ⟨hb.1,by simp,fun a ha b hb'=>?_⟩
        obtain ⟨e,he,rfl⟩:=List.mem_map.1 ha
        have:=hb.2 e he
        simp at hb'
        omega
      · rw [Array.toList_push] at he
        rcases List.mem_append.1 he with he|he
        · have:=hb.2 e he;omega
        · rw [List.mem_singleton.1 he];exact Nat.lt_succ_self _
  · have g3:mes[n]? = some e:=by rw [← Array.getElem?_toList];exact g1
    refine ⟨mes.modify n fun e=>{ e with key:=k,val:=v },clock,?_,?_⟩
    · simp [Instr.mapUpdate,Instr.findKey,Instr.keyThatStays,run_underlying hT,run_underlying hkt,MapKept.run_getObj_map h,run_checkKey hkt hk,h1,h2,g3,g2,sameBits_refl hk,Sem.run_bind,Sem.run_pure,Result.andThen,MapKept.run_setObj_map _ h,setBlock]
    · refine ⟨by rw [Array.toList_modify];exact h3,fun hb=>?_⟩
      have hborn:(mes.toList.modify n fun e=>{ e with key:=k,val:=v }).map (·.born)=mes.toList.map (·.born):=born_modify n
      refine ⟨by rw [Array.toList_modify,hborn];exact hb.1,fun e he=>?_⟩
      rw [Array.toList_modify] at he
      have hm:e.born ∈ (mes.toList.modify n fun e=>{ e with key:=k,val:=v }).map (·.born):=List.mem_map.2 ⟨e,he,rfl⟩
      rw [hborn] at hm
      obtain ⟨e',he',hbe⟩:=List.mem_map.1 hm
      rw [← hbe];exact hb.2 e' he'
theorem a_makeMap {k T kt et d:Nat} (q:Option IntKind) (ho:o.op = .makeMap T none) (hd:o.dst=some d) (hdn:Nat.blt d st.nt=true):GAt P k o st (st.newAt k d (.own k) (.map q [])):=fun F base w0 ρ a w hH hE hnn hk=>by
  refine wp_of_value (u:=.map (some w.heap.size)) (w':=w.alloc (.map #[] 0)) ?_ ?_
  · unfold execOp;rw [ho]
    simp [Instr.makeMap,newObj,go_sem]
    rfl
  · rw [hd]
    refine next_new hH hE hnn hk (below_alloc _ _) (fun _ b hb=>by simp only [blockOf,Option.some.injEq] at hb;omega) (Nat.le_of_ble_eq_true hdn) rfl (fun S hS _ hsame=>?_) (fun S=>.own (upd_same _ _ _))
    exact ⟨w.heap.size,#[],0,upd_same _ _ _,hH.hbase _ (Nat.le_refl _),heap_alloc_new _ _,rfl,⟨fun p hp=>(by cases hp),⟨List.nodup_nil,fun e he=>(by cases he)⟩⟩⟩
theorem isMapOp_run {T:TypeId} {m x y:Operand} (ho:o.op = .insert T m x y∨o.op = .mapUpdate T m x y) (a:Act) (w w':World) (h:(Instr.mapUpdate T (a.eval m) (a.eval x) (a.eval y)).run P w = .ok () w'):(execOp a.eval o).run P w = .ok .skip w':=by
  rcases ho with ho|ho <;> (unfold execOp;rw [ho];simp only [Sem.run_bind,h];rfl)
theorem g_insert {T kt et id:TypeId} {m x y:Operand} {q:Option IntKind} {k v:Value} {es:List (Value×Value)} (ho:o.op = .insert T m x y∨o.op = .mapUpdate T m x y) (hd:o.dst=none) (hm:opE st.env m=some (.own id)) (hh:getH st.heap id=some (.map q es))
    (hx:opE st.env x=some (.lit k)) (hy:opE st.env y=some (.lit v)) (hT:P.underlying T=some (.map kt et)) (hkt:P.underlying kt=some (kindD q)) (hk:keyOk q k=true) :
    GStep P n0 o st { st with heap:=(id,some (.map q (mput k v es))) :: st.heap }:=fun F base w0 ρ a w hH hE=>by
  have h1:=own_inv (opE_sound hE hm)
  obtain ⟨b,mes,clock,e1,e2,e3,e4,e5,e6⟩:=hH.blk _ _ hh
  rw [h1] at e1;injection e1 with e1
  have hv1:=lit_one (opE_sound hE hy)
  obtain ⟨mes',clock',hrun,hput,hbirth⟩:=run_mput (P:=P) (w:=w) (v:=v) hT hkt e3 hk (fun e he=>by
    have:=(e5 (kvE e) (by rw [← e4];exact List.mem_map.2 ⟨e,he,rfl⟩)).1
    exact this)
  have hns:¬ Stab F ρ st.heap b:=fun hs=>hs.2 id _ _ hh rfl (by rw [h1,e1]) rfl
  refine wp_of_skip (w':=setBlock w b (.map mes' clock')) ?_ ?_
  · refine isMapOp_run ho a w _ ?_
    rw [e1,lit_inv (opE_sound hE hx),lit_inv (opE_sound hE hy)]
    exact hrun
  · rw [hd]
    have hg:w.grownBy (setBlock w b (.map mes' clock')) (some b):=⟨rfl,rfl,rfl,by simp [setBlock],fun i _ hi=>heap_setBlock_other e3 _ (fun e=>hi (by rw [e]))⟩
    obtain ⟨q1,q2,q3⟩:=hH.step (ρ':=ρ) (heap':=(id,some (.map q (mput k v es))) :: st.heap) (next':=st.next) id (some b) hg
      (fun k hk=>by injection hk with hk;subst hk;exact ⟨e2,hns⟩) (fun _ _ h=>h) (fun id u h=>hH.sup id u h)
      (fun i B hne hB=>by
        rw [getH_new,if_neg (Ne.symm hne)] at hB
        refine ⟨hB,?_⟩
        obtain ⟨u,hu⟩:=hH.some_of hB
        exact ⟨u,hu,fun ho b' hb e=>by injection e with e;subst e;exact hne (hH.inj i id B _ u _ b hB hh ho rfl hu (by rw [h1,e1]) hb rfl)⟩)
      (fun B u b' hB ho hu hb=>by
        rw [h1,e1] at hu;injection hu with hu;subst hu
        simp only [blockOf,Option.some.injEq] at hb;subst hb
        refine .inr ⟨hns,fun i B' u' hne hB' ho' hu' hb'=>?_⟩
        rw [getH_new,if_neg (Ne.symm hne)] at hB'
        exact hne (hH.inj i id B' _ u' _ b hB' hh ho' rfl hu' (by rw [h1,e1]) hb' rfl))
      (fun B hB hS hsame=>by
        rw [getH_new,if_pos rfl] at hB;injection hB with hB;subst hB
        exact ⟨b,mes',clock',by rw [h1,e1],e2,heap_setBlock_same e3 _,by rw [← e4];exact hput,mput_keys hk hv1 es e5,hbirth e6⟩)
    exact ⟨ρ,q1,hE.mono q2 q3 (fun _ _ h=>h),fun _ _ h=>h,fun _ _=>rfl⟩
theorem mlook_one {q:Option IntKind} {k x:Value}:∀ {es:List (Value×Value)},(∀ p,p ∈ es→keyOk q p.1=true∧p.2.oneCell' = true)→mlook k es=some x→x.oneCell' = true
  | [],_,h=>by cases h
  | e :: es,h5,h=>by
    simp only [mlook] at h
    cases hb:kEq k e.1 with
    | true=>rw [hb] at h;injection h with h;subst h;exact (h5 _ List.mem_cons_self).2
    | false=>rw [hb] at h;exact mlook_one (fun p hp=>h5 p (List.mem_cons_of_mem _ hp)) h
def zero1 (P:Program) (T:TypeId):Option Value:=
  match P.info? T with
  | some i=>match i.zero with
    | some z=>bif z.oneCell' then some z else none
    | none=>none
  | none=>none
theorem zero1_spec {T:TypeId} {z:Value} (h:zero1 P T=some z):z.oneCell' = true ∧ ∀ w,(zeroValue T).run P w = .ok z w:=by
  unfold zero1 at h
  cases hi:P.info? T with
  | none=>rw [hi] at h;cases h
  | some i=>
    rw [hi] at h
    simp only at h
    cases hz:i.zero with
    | none=>rw [hz] at h;cases h
    | some y=>
      rw [hz] at h
      simp only at h
      cases hb:y.oneCell' with
      | false=>rw [hb] at h;cases h
      | true=>
        rw [hb] at h
        injection h with h;subst h
        exact ⟨hb,fun w=>by simp [zeroValue,typeInfo,hi,hz,Sem.run_bind,Sem.run_pure,program,Sem.run]⟩
theorem q_look {T kt et id:TypeId} {m x:Operand} {q:Option IntKind} {k z:Value} {ok:Bool} {es:List (Value×Value)} (ho:o.op = .lookup T m x ok) (hm:opE st.env m=some (.own id)) (hh:getH st.heap id=some (.map q es)) (hG:notIn id G=true)
    (hx:opE st.env x=some (.lit k)) (hT:P.underlying T=some (.map kt et)) (hkt:P.underlying kt=some (kindD q)) (hk:keyOk q k=true) (hz:zero1 P et=some z) :
    QStep P G o st (if ok then .tup [.lit ((mlook k es).getD z),.lit (.bool (mlook k es).isSome)] else .lit ((mlook k es).getD z)):=fun F base w0 ρ a w hH hE hL=>by
  have h1:=own_inv (opE_sound hE hm)
  obtain ⟨b,mes,clock,e1,e2,e3,e4,e5,_⟩:=hH.blk _ _ hh
  obtain ⟨hzo,z3⟩:=zero1_spec hz
  have hr:∀ w',Ext (GB ρ G) w w' → (Instr.lookup T (a.eval m) (a.eval x) ok).run P w' = .ok (if ok then .tuple #[(mlook k es).getD z,.bool (mlook k es).isSome] else (mlook k es).getD z) w':=fun w' hw'=>by
    have e3':w'.heap[b]? = some (.map mes clock):=by
      rw [hw'.block b (Array.getElem?_eq_some_iff.1 e3).1 (own_notGB hH hL hG hh rfl e1 rfl)];exact e3
    rw [h1] at e1;injection e1 with e1
    rw [e1,lit_inv (opE_sound hE hx)]
    have:=run_look (P:=P) (ok:=ok) hT hkt e3' hk (fun e he=>(e5 (kvE e) (by rw [← e4];exact List.mem_map.2 ⟨e,he,rfl⟩)).1) (z3 w')
    rw [e4] at this
    exact this
  have hvo:((mlook k es).getD z).oneCell' = true:=by
    cases hc:mlook k es with
    | none=>exact hzo
    | some x=>exact mlook_one e5 hc
  refine ⟨if ok then .tuple #[(mlook k es).getD z,.bool (mlook k es).isSome] else (mlook k es).getD z,?_,fun w' hw'=>?_⟩
  · cases ok
    · exact .pure (.lit _ hvo)
    · refine .tup rfl (fun j hj=>?_)
      match j,hj with
      | 0,_=>exact .pure (.lit _ hvo)
      | 1,_=>exact .pure (.lit _ rfl)
  · unfold execOp;rw [ho];simp only [Sem.run_bind,hr w' hw'];rfl
def keyQ:TypeDesc→Option (Option IntKind)
  | .int q=>some (some q)
  | .string=>some none
  | _=>none
def mapQ (P:Program) (T:TypeId):Option (Option IntKind×TypeId):=
  match P.underlying T with
  | some (.map kt et)=>match P.underlying kt with
    | some d=>match keyQ d with
      | some q=>some (q,et)
      | none=>none
    | none=>none
  | _=>none
theorem mapQ_spec {T:TypeId} {q:Option IntKind} {et:TypeId} (h:mapQ P T=some (q,et)):∃ kt,P.underlying T=some (.map kt et)∧P.underlying kt=some (kindD q):=by
  unfold mapQ at h
  split at h
  · rename_i kt et' hT
    split at h
    · rename_i d hd
      split at h
      · rename_i q' hq
        injection h with h
        injection h with h1 h2
        subst h1 h2
        refine ⟨kt,hT,?_⟩
        rw [hd]
        cases d <;> simp [keyQ] at hq <;> subst hq <;> rfl
      · cases h
    · cases h
  · cases h
section
variable {ops:List Oper} {rest:List Oper} {env:List (Nat×V)} {heap:List (Nat×Option Blk)} {next nt:Nat} {Q:St→Prop}
theorem s_makeMap {T et d:Nat} {q:Option IntKind} (ho:o.op = .makeMap T none:=by rfl) (hq:mapQ P T=some (q,et):=by rfl) (hg:guardV env ops o.guard=some true:=by rfl) (hd:o.dst=some d:=by rfl) (hdn:Nat.blt d nt=true:=by rfl) (hn0:Nat.ble n0 next=true:=by rfl)
    (h:RunL P n0 ops.toArray rest ⟨(d,.own next) :: env,(next,some (.map q [])) :: heap,next+1,nt⟩ Q):RunL P n0 ops.toArray (o :: rest) ⟨env,heap,next,nt⟩ Q:=
  l_g hg (gstep_of_at (Nat.le_of_ble_eq_true hn0) (a_makeMap (kt:=0) (et:=0) (T:=T) (st:={ env:=env,heap:=heap,next:=next+1,nt:=nt }) q ho hd hdn)) h
theorem s_insert {T et id:Nat} {m x y:Operand} {q:Option IntKind} {k v:Value} {es:List (Value×Value)} (ho:o.op = .insert T m x y∨o.op = .mapUpdate T m x y:=by first|exact .inl rfl|exact .inr rfl) (hd:o.dst=none:=by rfl) (hm:opE env m=some (.own id):=by rfl) (hh:getH heap id=some (.map q es):=by rfl)
    (hx:opE env x=some (.lit k):=by rfl) (hy:opE env y=some (.lit v):=by rfl) (hq:mapQ P T=some (q,et):=by rfl) (hk:keyOk q k=true:=by rfl) (hg:guardV env ops o.guard=some true:=by rfl)
    (h:RunL P n0 ops.toArray rest ⟨env,(id,some (.map q (mput k v es))) :: heap,next,nt⟩ Q):RunL P n0 ops.toArray (o :: rest) ⟨env,heap,next,nt⟩ Q:=by
  obtain ⟨kt,h1,h2⟩:=mapQ_spec hq
  exact l_g hg (g_insert (st:=⟨env,heap,next,nt⟩) ho hd hm hh hx hy h1 h2 hk) h
theorem s_look {T et id d:Nat} {m x:Operand} {q:Option IntKind} {k z r:Value} {es:List (Value×Value)} (hr:(mlook k es).getD z=r) (ho:o.op = .lookup T m x false:=by rfl) (hm:opE env m=some (.own id):=by rfl) (hh:getH heap id=some (.map q es):=by rfl)
    (hx:opE env x=some (.lit k):=by rfl) (hq:mapQ P T=some (q,et):=by rfl) (hk:keyOk q k=true:=by rfl) (hz:zero1 P et=some z:=by rfl) (hg:guardV env ops o.guard=some true:=by rfl) (hd:o.dst=some d:=by rfl) (hdn:Nat.blt d nt=true:=by rfl)
    (h:RunL P n0 ops.toArray rest ⟨(d,.lit r) :: env,heap,next,nt⟩ Q):RunL P n0 ops.toArray (o :: rest) ⟨env,heap,next,nt⟩ Q:=by
  obtain ⟨kt,h1,h2⟩:=mapQ_spec hq
  subst hr
  exact x_q hg hd hdn (by simpa using q_look (st:=⟨env,heap,next,nt⟩) (G:=[]) ho hm hh rfl hx h1 h2 hk hz) h
theorem s_look2 {T et id d:Nat} {m x:Operand} {q:Option IntKind} {k z r:Value} {b:Bool} {es:List (Value×Value)} (hr:(mlook k es).getD z=r) (hb:(mlook k es).isSome=b) (ho:o.op = .lookup T m x true:=by rfl) (hm:opE env m=some (.own id):=by rfl) (hh:getH heap id=some (.map q es):=by rfl)
    (hx:opE env x=some (.lit k):=by rfl) (hq:mapQ P T=some (q,et):=by rfl) (hk:keyOk q k=true:=by rfl) (hz:zero1 P et=some z:=by rfl) (hg:guardV env ops o.guard=some true:=by rfl) (hd:o.dst=some d:=by rfl) (hdn:Nat.blt d nt=true:=by rfl)
    (h:RunL P n0 ops.toArray rest ⟨(d,.tup [.lit r,.lit (.bool b)]) :: env,heap,next,nt⟩ Q):RunL P n0 ops.toArray (o :: rest) ⟨env,heap,next,nt⟩ Q:=by
  obtain ⟨kt,h1,h2⟩:=mapQ_spec hq
  subst hr hb
  exact x_q hg hd hdn (by simpa using q_look (st:=⟨env,heap,next,nt⟩) (G:=[]) ho hm hh rfl hx h1 h2 hk hz) h
theorem strB_sum {l m:List UInt8} (h:l.length+m.length≤9223372036854775807):(strB l).size+(strB m).size≤9223372036854775807:=by rw [strB_size,strB_size];exact h
theorem s_sadd {T yt d:Nat} {x y:Operand} {a b:ByteArray} {l m r:List UInt8} (hr:l++m=r) (hn:l.length+m.length≤9223372036854775807) (ho:o.op = .binOp .add T x y yt:=by rfl) (hx:opE env x=some (.lit (.string a)):=by rfl) (hy:opE env y=some (.lit (.string b)):=by rfl) (ha:a=strB l:=by rfl) (hb:b=strB m:=by rfl)
    (hg:guardV env ops o.guard=some true:=by rfl) (hd:o.dst=some d:=by rfl) (hdn:Nat.blt d nt=true:=by rfl)
    (h:RunL P n0 ops.toArray rest ⟨(d,.lit (.string (strB r))) :: env,heap,next,nt⟩ Q):RunL P n0 ops.toArray (o :: rest) ⟨env,heap,next,nt⟩ Q:=by
  subst hr ha hb
  refine x_q hg hd hdn ?_ h
  rw [← strB_append]
  exact q_str_add ho hx hy (strB_sum hn)
end
section
variable {ops:List Oper} {rest:List Oper} {env:List (Nat×V)} {heap:List (Nat×Option Blk)} {nt b0 k k':Nat} {W:Nat→Nat→Bool} {Q:St→Prop}
theorem p_sadd {T yt d:Nat} {x y:Operand} {a b:ByteArray} {l m r:List UInt8} (hr:l++m=r) (hn:l.length+m.length≤9223372036854775807) (ho:o.op = .binOp .add T x y yt:=by rfl) (hx:opE (lk (looks ops o) env) x=some (.lit (.string a)):=by rfl) (hy:opE (lk (looks ops o) env) y=some (.lit (.string b)):=by rfl) (ha:a=strB l:=by rfl) (hb:b=strB m:=by rfl)
    (hg:guardV (lk (looks ops o) env) ops o.guard=some true:=by rfl) (hd:o.dst=some d:=by rfl) (hdn:Nat.blt d nt=true:=by rfl) (hk:k+1=k':=by (simp only [Nat.reduceAdd];rfl)) (hb':Nat.ble b0 k=true:=by rfl)
    (h:PL P nt b0 ops W k' rest ((d,.lit (.string (strB r))) :: env) heap Q):PL P nt b0 ops W k (o :: rest) env heap Q:=by
  subst hr ha hb
  refine y_q hg hd hdn hb' hk (fun N=>?_) h
  rw [← strB_append]
  exact q_str_add ho hx hy (strB_sum hn)
end
end
end Go.Proofs.YtendheafcbickaaGreat
end
section
namespace Go.Proofs.YtendheafcbickaaGreat
open Go.RowKit
theorem q_sidx {P:Program} {o:Oper} {st:St} {G:List Nat} {T n:Nat} {x y:Operand} {a:ByteArray} {l:List UInt8} {k:IntKind} {m:Int} (ho:o.op = .index T x y) (hx:opE st.env x=some (.lit (.string a))) (ha:a=strB l) (hy:opE st.env y=some (.lit (.int k m)))
    (hm:m=(n:Int)) (hn:n<l.length) (hT:P.underlying T=some .string):QStep P G o st (.lit (.int .u8 ((l.getD n default).toNat:Int))):=by
  subst ha
  have:=q_index_str (P:=P) (G:=G) ho hx hy hm (by rw [strB_size];exact hn) hT
  rw [strB_list] at this
  exact this
def u8Z (P:Program) (e:TypeId):Bool:=match P.info? e with|some i=>(match i.zero with|some (.int .u8 0)=>Nat.beq i.size 1 && Nat.beq i.bytes 1|_=>false)|none=>false
section
variable {P:Program} {o:Oper} {n0:Nat} {ops:List Oper} {rest:List Oper} {env:List (Nat×V)} {heap:List (Nat×Option Blk)} {next nt:Nat} {Q:St→Prop}
theorem s_sidx {T n d:Nat} {x y:Operand} {a:ByteArray} {l:List UInt8} {k:IntKind} {m:Int} (ho:o.op = .index T x y:=by rfl) (hx:opE env x=some (.lit (.string a)):=by rfl) (ha:a=strB l:=by rfl) (hy:opE env y=some (.lit (.int k m)):=by rfl)
    (hm:m=(n:Int):=by first|exact lit0|exact lit1|exact lit2|exact lit3|rfl|exact castp (by omega)|exact (Int.toNat_of_nonneg (by omega)).symm) (hn:n<l.length:=by first|omega|(simp only [List.length_cons,List.length_nil];omega)) (hT:P.underlying T=some .string:=by rfl)
    (hg:guardV env ops o.guard=some true:=by rfl) (hd:o.dst=some d:=by rfl) (hdn:Nat.blt d nt=true:=by rfl) (h:RunL P n0 ops.toArray rest ⟨(d,.lit (.int .u8 ((l.getD n default).toNat:Int))) :: env,heap,next,nt⟩ Q):RunL P n0 ops.toArray (o :: rest) ⟨env,heap,next,nt⟩ Q:=
  x_q hg hd hdn (q_sidx ho hx ha hy hm hn hT) h
end
section
variable {P:Program} {o:Oper} {ops:List Oper} {rest:List Oper} {env:List (Nat×V)} {heap:List (Nat×Option Blk)} {nt b0 k k':Nat} {W:Nat→Nat→Bool} {Q:St→Prop}
theorem p_set {T:TypeId} {x y:Operand} {id i j e s:Nat} {l r:List (List V)} {vs:List V} {v:V} (hi:i<l.length) (hr:l.set i (setAt j vs (eAt l i))=r) (ho:o.op = .store T x y:=by rfl) (hg:guardV (lk (looks ops o) env) ops o.guard=some true:=by rfl) (hd:o.dst=none:=by rfl) (hx:opE (lk (looks ops o) env) x=some (.ptr id i s j):=by rfl) (hh:getH heap id=some (.row e s l):=by rfl) (hy:opE (lk (looks ops o) env) y=some v:=by rfl)
    (hf:flat v=some vs:=by rfl) (hp:vs.all pureV=true:=by rfl) (hT:sizeT P T=some vs.length:=by rfl) (hl:Nat.ble (j+vs.length) s=true:=by rfl) (hk:k+1=k':=by (simp only [Nat.reduceAdd];rfl)) (hb:Nat.ble b0 k=true:=by rfl) (hW:W (k - b0) id=true:=by rfl) (hv:vis ops W b0 (k - b0) id=true:=by kernel_rfl)
    (h:PL P nt b0 ops W k' rest env ((id,some (.row e s r)) :: heap) Q):PL P nt b0 ops W k (o :: rest) env heap Q:=by
  subst hk hr
  refine p_cons (s:=⟨.und,[(id,some (.row e s (l.set i (setAt j vs (eAt l i)))))]⟩) (fun N h1 h2=>⟨lk (looks ops o) env,[(id,some (.row e s l))],fun t x h=>lk_spec h,fun id' B' h'=>?_,fun id' h=>.inr ?_,?_⟩) ?_ hb
  · rw [getH_new] at h'
    split at h'
    · rename_i e;subst e;injection h' with h';subst h';exact ⟨hv,hh⟩
    · cases h'
  · rw [inH_one h,ho];exact ⟨hW,rfl,hv⟩
  · refine fam_g hg (fun env' heap' hE hH=>?_)
    have:=g_store_row (P:=P) (n0:=N) (st:=⟨env',heap',N,nt⟩) ho hd (opE_mono hE hx) (hH id (.row e s l) (by simp [getH])) hi (opE_mono hE hy) hf hp hT hl
    rw [hd]
    exact this
  · rw [hd];exact h
theorem p_quo {T yt:TypeId} {x y:Operand} {kd:IntKind} {m n:Int} {d:Nat} (ho:o.op = .binOp .quo T x y yt:=by rfl) (hx:opE (lk (looks ops o) env) x=some (.lit (.int kd m)):=by rfl) (hy:opE (lk (looks ops o) env) y=some (.lit (.int kd n)):=by rfl) (hm:0≤m:=by omega) (hn:0<n:=by omega) (hw:kd.wrap (m / n)=m / n:=by first|(rw [IntKind.wrap_i64];omega)|(rw [IntKind.wrap_u64];omega)|(rw [IntKind.wrap_u8];omega)) (hg:guardV (lk (looks ops o) env) ops o.guard=some true:=by rfl) (hd:o.dst=some d:=by rfl) (hdn:Nat.blt d nt=true:=by rfl) (hk:k+1=k':=by (simp only [Nat.reduceAdd];rfl)) (hb':Nat.ble b0 k=true:=by rfl)
    (h:PL P nt b0 ops W k' rest ((d,.lit (.int kd (m / n))) :: env) heap Q):PL P nt b0 ops W k (o :: rest) env heap Q:=by
  refine y_q hg hd hdn hb' hk (fun N=>?_) h
  have:=q_quo (P:=P) (G:=[]) (st:=⟨(lk (looks ops o) env),[],N,nt⟩) ho hx hy (by omega)
  rw [Int.tdiv_eq_ediv_of_nonneg hm,hw] at this
  exact this
theorem p_rem {T yt:TypeId} {x y:Operand} {kd:IntKind} {m n:Int} {d:Nat} (ho:o.op = .binOp .rem T x y yt:=by rfl) (hx:opE (lk (looks ops o) env) x=some (.lit (.int kd m)):=by rfl) (hy:opE (lk (looks ops o) env) y=some (.lit (.int kd n)):=by rfl) (hm:0≤m:=by omega) (hn:0<n:=by omega) (hg:guardV (lk (looks ops o) env) ops o.guard=some true:=by rfl) (hd:o.dst=some d:=by rfl) (hdn:Nat.blt d nt=true:=by rfl) (hk:k+1=k':=by (simp only [Nat.reduceAdd];rfl)) (hb':Nat.ble b0 k=true:=by rfl)
    (h:PL P nt b0 ops W k' rest ((d,.lit (.int kd (m % n))) :: env) heap Q):PL P nt b0 ops W k (o :: rest) env heap Q:=by
  refine y_q hg hd hdn hb' hk (fun N=>?_) h
  have:=q_rem (P:=P) (G:=[]) (st:=⟨(lk (looks ops o) env),[],N,nt⟩) ho hx hy (by omega)
  rw [Int.tmod_eq_emod_of_nonneg hm] at this
  exact this
end
end Go.Proofs.YtendheafcbickaaGreat
end
section
namespace Go.Proofs.YtendheafcbickaaGreat
open Go.RowKit
def atR (n:Nat):Code→Bool
  | .region i _ _=>Nat.beq i n
  | .seq a _=>atR n a
  | .block _ a=>atR n a
  | .loop a=>atR n a
  | _=>false
theorem r_seqU {P:Program} {n0:Nat} {st:St} (n:Nat) {x y:Code} {Q:Exit→St→Prop} (hn:atR n x=false) (h:Run P n0 x st (ThenQ (fun st'=>Run P n0 y st' Q) Q)):Run P n0 (.seq x y) st Q:=r_seq h
section
variable {P:Program} {n0:Nat} {o:Oper} {ops rest:List Oper} {env:List (Nat×V)} {heap:List (Nat×Option Blk)} {next nt:Nat} {Q:St→Prop}
theorem s_bne {T yt:TypeId} {x y:Operand} {a b:Bool} {d:Nat} (ho:o.op = .binOp .neq T x y yt:=by rfl) (hx:opE env x=some (.lit (.bool a)):=by rfl) (hy:opE env y=some (.lit (.bool b)):=by rfl) (hT:P.underlying T=some .bool:=by rfl) (hg:guardV env ops o.guard=some true:=by rfl) (hd:o.dst=some d:=by rfl) (hdn:Nat.blt d nt=true:=by rfl)
    (ht:¬ a=b→RunL P n0 ops.toArray rest ⟨(d,.lit (.bool true)) :: env,heap,next,nt⟩ Q) (hf:a=b→RunL P n0 ops.toArray rest ⟨(d,.lit (.bool false)) :: env,heap,next,nt⟩ Q):RunL P n0 ops.toArray (o :: rest) ⟨env,heap,next,nt⟩ Q:=by
  have h:=q_bool_neq (P:=P) (G:=[]) (st:=⟨env,heap,next,nt⟩) ho hx hy hT
  by_cases hp:a=b
  · rw [show decide (¬ a=b)=false from by simp [hp]] at h;exact x_q hg hd hdn h (hf hp)
  · rw [show decide (¬ a=b)=true from by simp [hp]] at h;exact x_q hg hd hdn h (ht hp)
end
section
variable {P:Program} {o:Oper} {nt b0 k k':Nat} {ops:List Oper} {W:Nat→Nat→Bool} {rest:List Oper} {env:List (Nat×V)} {heap:List (Nat×Option Blk)} {Q:St→Prop}
end
section
variable {P:Program} {n0:Nat} {o:Oper} {ops rest:List Oper} {env:List (Nat×V)} {heap:List (Nat×Option Blk)} {next nt:Nat} {Q:St→Prop}
theorem s_rowR {t e len d s:Nat} {parts:Array (Nat×Operand)} {ps:List (Nat×List V)} {l l' r:List (List V)} (hr:l' = r) (ho:o.op = .buildSlice t len parts:=by rfl) (ht:P.underlying t=some (.slice e):=by rfl) (hs:(sizeT P e).getD 0=s:=by rfl) (hp:partsE env parts.toList=some ps:=by rfl) (hl:sliceV P e len ps=some l:=by rfl) (hN:NormL l l':=by repeat' (first|exact NormL.nil|apply NormL.cons|exact Norm.nil|apply Norm.cons)) (hpu:l'.all (fun cs=>cs.all pureV)=true:=by rfl) (hg:guardV env ops o.guard=some true:=by rfl) (hd:o.dst=some d:=by rfl) (hdn:Nat.blt d nt=true:=by rfl) (hn0:Nat.ble n0 next=true:=by rfl) (hlen:Nat.blt 0 len=true:=by rfl) (hsm:Nat.ble (len * (sizeT P e).getD 0) 16777216=true:=by rfl)
    (h:RunL P n0 ops.toArray rest ⟨(d,.own next) :: env,(next,some (.row e s r)) :: heap,next+1,nt⟩ Q):RunL P n0 ops.toArray (o :: rest) ⟨env,heap,next,nt⟩ Q:=by
  subst hr
  exact s_row ho ht hs hp hl hN hpu hg hd hdn hn0 hlen hsm h
end
section
variable {P:Program} {o:Oper} {nt b0 k k':Nat} {ops:List Oper} {W:Nat→Nat→Bool} {rest:List Oper} {env:List (Nat×V)} {heap:List (Nat×Option Blk)} {Q:St→Prop}
end
end Go.Proofs.YtendheafcbickaaGreat
end
section
namespace Go.Proofs.YtendheafcbickaaGreat
open Go.RowKit
theorem coverC_mono {m:Nat→Nat} {k0:Nat} {heap heap':List (Nat×Option Blk)} (h:∀ id B,getH heap id=some B→getH heap' id=some B):∀ {e:List (Nat×Option Blk)},coverC m k0 heap e→coverC m k0 heap' e
  | [],_=>trivial
  | (_,none) :: r,hc=>coverC_mono (e:=r) h hc
  | (_,some _) :: r,hc=>⟨⟨hc.1.1,h _ _ hc.1.2⟩,coverC_mono (e:=r) h hc.2⟩
def pickH (heap:List (Nat×Option Blk)):List Nat→List (Nat×Option Blk)
  | []=>[]
  | id :: M=>(id,getH heap id) :: pickH heap M
theorem pickH_get {heap:List (Nat×Option Blk)}:∀ {M:List Nat} {id:Nat} {B:Blk},getH (pickH heap M) id=some B→memI M id=true∧getH heap id=some B
  | [],id,B,h=>by simp [pickH,getH] at h
  | a :: M,id,B,h=>by
    unfold pickH at h
    rw [getH_new] at h
    split at h
    · rename_i e
      subst e
      exact ⟨by simp [memI],h⟩
    · have:=pickH_get (M:=M) h
      exact ⟨by simp [memI,this.1],this.2⟩
theorem inH_keys {M:List Nat} {k:Nat}:∀ {H:List (Nat×Option Blk)},H.all (fun p=>Nat.beq p.1 k || memI M p.1)=true → ∀ id,inH H id=true→id=k∨memI M id=true
  | [],_,id,h=>by cases h
  | p :: H,ha,id,h=>by
    rw [List.all_cons,Bool.and_eq_true] at ha
    unfold inH at h
    cases hb:Nat.beq p.1 id with
    | true=>
      have e:=Nat.eq_of_beq_eq_true hb
      subst e
      have h1:=ha.1
      rw [Bool.or_eq_true] at h1
      rcases h1 with h1|h1
      · exact .inl (Nat.eq_of_beq_eq_true h1)
      · exact .inr h1
    | false=>
      rw [hb] at h
      exact inH_keys (H:=H) ha.2 id h
theorem all_memI {M:List Nat} {p:Nat→Bool} (h:M.all p=true) {id:Nat} (hm:memI M id=true):p id=true:=by
  exact List.all_eq_true.1 h id (memI_to hm)
section
variable {P:Program} {o:Oper} {nt b0 k k':Nat} {ops:List Oper} {W:Nat→Nat→Bool} {rest:List Oper} {env:List (Nat×V)} {heap:List (Nat×Option Blk)} {Q:St→Prop}
theorem p_callM {f:FuncId} {xs:Array Operand} {ts:Array TypeId} {vs vs':List V} {r r':V} {h0 h1 H heap':List (Nat×Option Blk)} {k1 d:Nat} (M:List Nat) (hf:FnM P f vs' h0 M.length r h1 k1) (ho:o.op = .call { callee:=.value (.func f),args:=xs,argTypes:=ts }:=by rfl)
    (hg:guardV (lk (looks ops o) env) ops o.guard=some true:=by rfl) (hd:o.dst=some d:=by rfl) (hdn:Nat.blt d nt=true:=by rfl) (hx:argsE (lk (looks ops o) env) xs.toList=some vs:=by rfl)
    (hw : ∀ N, WkL vs (fv.fvL (mM (M ++ [k]) N) vs') := by (intro N; (repeat' (first | exact WkL.nil | refine WkL.cons ?_ ?_ | exact Wk.refl _ | exact Wk.nil | refine Wk.agg ?_ | refine Wk.tup ?_)); first | done | fail "args"))
    (hM : nodupB (M ++ [k]) = true := by rfl) (hh : ∀ N, coverC (mM (M ++ [k]) N) M.length (pickH heap M) h0 := by (intro N; (repeat' (first | exact True.intro | exact rfl | refine And.intro ?_ ?_)); first | done | fail "mem"))
    (hk1:k1=M.length+1:=by rfl) (hk2:h1.all (fun p=>Nat.blt p.1 k1)=true:=by rfl)
    (hr:∀ N,fv (mM (M++[k]) N) r=r':=by first|(intro N;simp only [fv,fv.fvL,List.cons_append,List.nil_append,mM0,mM1,mM2,mM3,mM4,mM5,mM6,mM7];rfl)|(intro N;rfl))
    (hH:∀ N,fH (mM (M++[k]) N) h1++deadM M=H:=by (intro N;simp only [fH,fB,fv,fv.fvL,deadM,Option.map_some,Option.map_none,List.cons_append,List.nil_append,mM0,mM1,mM2,mM3,mM4,mM5,mM6,mM7];rfl))
    (hin:H.all (fun p=>Nat.beq p.1 k || memI M p.1)=true:=by rfl) (hW:M.all (fun id=>W (k - b0) id)=true:=by kernel_rfl) (hv:M.all (fun id=>vis ops W b0 (k - b0) id)=true:=by kernel_rfl)
    (hk:k+1=k':=by (simp only [Nat.reduceAdd];rfl)) (hb':Nat.ble b0 k=true:=by rfl) (hc:isWc o.op=true:=by rfl) (hheap:H++heap=heap':=by (simp only [List.cons_append,List.nil_append];rfl))
    (h:PL P nt b0 ops W k' rest ((d,r') :: env) heap' Q):PL P nt b0 ops W k (o :: rest) env heap Q:=by
  subst hheap
  refine p_at (Hn:=pickH heap M) (H:=H) hg hd hk hb' (fun id B h=>?_) (fun id h=>?_) (fun N env' heap' hE hHc=>?_) h
  · obtain ⟨q1,q2⟩:=pickH_get h
    exact ⟨all_memI hv q1,q2⟩
  · rcases inH_keys hin id h with q|q
    · exact .inl q
    · exact .inr ⟨all_memI hW q,hc,all_memI hv q⟩
  · have:=a_callM (k:=k) (st:=⟨env',heap',N,nt⟩) M hf ho (by rw [hd];exact hdn) (argsE_mono hE hx) (hw N) hM (coverC_mono (fun id B h=>hHc id B h) (hh N)) hk1 hk2
    rw [hd] at this
    rw [hr N,← List.append_assoc,hH N] at this
    exact this
end
section
variable {P:Program} {n0:Nat} {o:Oper} {ops rest:List Oper} {env:List (Nat×V)} {heap:List (Nat×Option Blk)} {next nt:Nat} {Q:St→Prop}
end
end Go.Proofs.YtendheafcbickaaGreat
end
section
namespace Go.Proofs.YtendheafcbickaaGreat
open Go.RowKit
section
variable {P:Program} {G:List Nat} {o:Oper} {st:St}
theorem q_min4 {x y z u:Operand} {ts:Array TypeId} {k:IntKind} {a b c d:Int} (ho:o.op = .call { callee:=.builtin .min,args:=#[x,y,z,u],argTypes:=ts }) (hx:opE st.env x=some (.lit (.int k a))) (hy:opE st.env y=some (.lit (.int k b)))
    (hz:opE st.env z=some (.lit (.int k c))) (hu:opE st.env u=some (.lit (.int k d))):QStep P G o st (.lit (.int k (min (min a b) (min c d)))):=
  q_of_run fun F base w0 ρ a' w hH hE=>by
    refine ⟨_,.pure (.lit _ rfl),fun w'=>?_⟩
    unfold execOp;rw [ho]
    simp only [resolve,invoke,Sem.run_bind,Sem.run_pure,Result.andThen_ok,List.map_toArray,List.map_cons,List.map_nil]
    rw [lit_inv (opE_sound hE hx),lit_inv (opE_sound hE hy),lit_inv (opE_sound hE hz),lit_inv (opE_sound hE hu)]
    have e2:∀ m n:Int,(if n<m then n else m)=min m n:=fun m n=>by split <;> omega
    have e:min (min a b) (min c d)=min (min (min a b) c) d:=by omega
    rw [e]
    simp [builtin,Builtin.min_,Builtin.min2,Sem.run_pure,e2,Sem.run_bind]
end
end Go.Proofs.YtendheafcbickaaGreat
end
section
namespace Go.Proofs.YtendheafcbickaaGreat
open Go.RowKit Go.ChangeMaps
section
variable {P:Program} {o:Oper} {n0:Nat} {st:St}
section
variable {ops:List Oper} {rest:List Oper} {env:List (Nat×V)} {heap:List (Nat×Option Blk)} {next nt:Nat} {Q:St→Prop}
end
end
end Go.Proofs.YtendheafcbickaaGreat
end
section
namespace Go.Proofs.YtendheafcbickaaGreat
open Go.RowKit
section
variable {P:Program} {o:Oper} {n0:Nat} {st:St} {G:List Nat}
section
variable {ops:List Oper} {rest:List Oper} {env:List (Nat×V)} {heap:List (Nat×Option Blk)} {next nt:Nat} {Q:St→Prop}
end
end
end Go.Proofs.YtendheafcbickaaGreat
end
