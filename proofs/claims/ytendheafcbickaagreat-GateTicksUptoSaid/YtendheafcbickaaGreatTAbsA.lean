
import Derived.Test.YtendheafcbickaaGreatTZip
import Derived.Handy
import Derived.Lib.Hide
import Derived.IntWalk
import Derived.Laws.IdiomStrings
import Derived.Orders
import Derived.Below
import Derived.Deep.LoopGhost
import Derived.Laws.Tables
import Derived.Great.BuildSlice
import Derived.Laws.OwnMore
import Derived.Laws.BytesString
import Derived.Deep.OwnRows
import Derived.Lib.AppendStr
import Derived.Laws.IdiomRangeMap
set_option linter.unusedVariables false
set_option linter.unusedSimpArgs false
namespace Go.Proofs.YtendheafcbickaaGreat
section
open Go.RowKit
inductive V where
 | lit (v:Value)
 | ro (l:List (List V))
 | own (id:Nat)
 | ptr (id i s j:Nat)
 | e9 (cs:List V)
 | agg (cs:List V)
 | b0 (vs:List V)
 | gi (f:FuncId) (cs:List V)
 | any
 | gl
abbrev RQ:V:=.lit undef
def bx (l:List V) (j:Nat):V:=l.getD j RQ
def bH (l:List (List V)) (i:Nat):List V:=l.getD i []
def h6 (q:Option IntKind) (v:Value):Bool:=match q,v with
 | some q,.int k _=>decide (k=q)
 | none,.string _=>true
 | _,_=>false
inductive aY where
 | box (t:TypeId) (cs:List V)
 | row (e:TypeId) (s:Nat) (l:List (List V))
 | gb (l:List (List V))
 | map (q:Option IntKind) (es:List (Value×Value))
 | obj (o:Obj)
 | jG (e:TypeId) (s:Nat) (l:List (List V))
 | jX (q:Option IntKind) (es:List (Value×Value))
 | iter (left:List (Value×Value)) (dp:Option (Value×Value))
 | mQ (e:TypeId) (l:List UInt8)
def aY.owns:aY->Bool
 | .gb _=>false
 | .jX _ _=>false
 | _=>true
structure ba where
 env:List (Nat×V)
 heap:List (Nat×Option aY)
 next:Nat
 ad:Nat
def cG:List (Nat×V)->Nat->Option V
 | [],_=>none
 | (t,v) :: r,s=>bif Nat.beq t s then some v else cG r s
def bd:List (Nat×Option aY)->Nat->Option aY
 | [],_=>none
 | (t,v) :: r,s=>bif Nat.beq t s then v else bd r s
def dY:Value->Option Nat
 | .slice (some a) _ _=>some a.block
 | .pointer (some a)=>some a.block
 | .map (some b)=>some b
 | _=>none
inductive fP (S:Nat->Prop) (w:World):V->Value->Prop
 | lit (v:Value) (h:v.oneCell' = true):fP S w (.lit v) v
 | ro (l:List (List V)) (A:Option Addr) (c s b off:Nat) (us:Nat->Nat->Value) (hc:l.length<=c) (hm:c<=maxLen)
   (aw:0<s) (b1:0<l.length->A=some ⟨b,off,none⟩/\S b) (ap:∀ i,i<l.length->(bH l i).length=s)
   (jY:∀ i j,i<l.length->j<s->w.cell? ⟨b,off+i * s+j,none⟩=some (us i j))
   (hrel:∀ i j,i<l.length->j<s->fP S w (bx (bH l i) j) (us i j)):fP S w (.ro l) (.slice A l.length c)
inductive cC (ρ:Nat->Option Value) (S:Nat->Prop) (w:World):V->Value->Prop
 | pure {v:V} {u:Value} (h:fP S w v u):cC ρ S w v u
 | own {id:Nat} {u:Value} (h:ρ id=some u):cC ρ S w (.own id) u
 | ptr {id i s j b:Nat} {u:Value} (h:ρ id=some u) (hb:dY u=some b):cC ρ S w (.ptr id i s j) (.pointer (some ⟨b,i * s+j,none⟩))
 | e9 {cs:List V} {b off:Nat} (us:Nat->Value) (hS:0<cs.length->S b) (jY:∀ j,j<cs.length->w.cell? ⟨b,off+j,none⟩=some (us j))
   (hrel:∀ j,j<cs.length->fP S w (bx cs j) (us j)):cC ρ S w (.e9 cs) (.pointer (some ⟨b,off,none⟩))
 | agg {cs:List V} {us:Array Value} (hn:us.size=cs.length) (h:∀ j,j<cs.length->cC ρ S w (bx cs j) (us.getD j undef)):cC ρ S w (.agg cs) (.agg us)
 | b0 {cs:List V} {us:Array Value} (hn:us.size=cs.length) (h:∀ j,j<cs.length->cC ρ S w (bx cs j) (us.getD j undef)):cC ρ S w (.b0 cs) (.tuple us)
 | gi {f:FuncId} {cs:List V} {us:Array Value} (hn:us.size=cs.length) (h:∀ j,j<cs.length->cC ρ S w (bx cs j) (us.getD j undef)):cC ρ S w (.gi f cs) (.func (.func f) #[] us)
 | any (u:Value):cC ρ S w .any u
 | gl:cC ρ S w .gl undef
def dX (S:Nat->Prop) (w aE:World):Prop:=∀ b,S b->b<w.heap.size->aE.heap[b]? = w.heap[b]?
theorem pq {w:World} {b o:Nat} {u:Value} (h:w.cell? ⟨b,o,none⟩=some u):b<w.heap.size:=World.block_lt_of_cell? w _ h
theorem dX.cell {S:Nat->Prop} {w aE:World} (h:dX S w aE) {b o:Nat} {u:Value} (hS:S b) (hc:w.cell? ⟨b,o,none⟩=some u):aE.cell? ⟨b,o,none⟩=some u:=by
 have:=h b hS (pq hc)
 rw[<- hc]
 simp[World.cell?,this]
theorem dX.refl (S:Nat->Prop) (w:World):dX S w w:=fun _ _ _=>rfl
theorem fP.mono {S hN:Nat->Prop} {w aE:World} {v:V} {u:Value} (h:fP S w v u) (hw:dX S w aE) (hS:∀ b,S b->b<w.heap.size->hN b):fP hN aE v u:=by
 induction h with
 | lit v h=>exact .lit v h
 | ro l A c s b off us hc hm aw b1 ap jY hrel cf=>
  by_cases af:0<l.length
  ·have cj:=pq (jY 0 0 af aw)
   exact .ro l A c s b off us hc hm aw (fun _=>⟨(b1 af).1,hS b (b1 af).2 cj⟩) ap (fun i j hi ah=>hw.cell (b1 af).2 (jY i j hi ah)) cf
  ·exact .ro l A c s b off us hc hm aw (fun h=>absurd h af) ap (fun i j hi=>by omega) (fun i j hi=>by omega)
theorem cC.mono {ρ bm:Nat->Option Value} {S hN:Nat->Prop} {w aE:World} {v:V} {u:Value} (h:cC ρ S w v u) (hw:dX S w aE)
  (hS:∀ b,S b->b<w.heap.size->hN b) (e7:∀ id u,ρ id=some u->bm id=some u):cC bm hN aE v u:=by
 induction h with
 | pure h=>exact .pure (h.mono hw hS)
 | own h=>exact .own (e7 _ _ h)
 | ptr h hb=>exact .ptr (e7 _ _ h) hb
 | @e9 cs b off us pt jY hrel=>
  refine .e9 us (fun af=>hS b (pt af) (pq (jY 0 af))) (fun j ah=>hw.cell (pt (by omega)) (jY j ah)) (fun j ah=>(hrel j ah).mono hw hS)
 | agg hn h cf=>exact .agg hn cf
 | b0 hn h cf=>exact .b0 hn cf
 | gi hn h cf=>exact .gi hn cf
 | any u=>exact .any u
 | gl=>exact .gl
def bC (F:Nat->Prop) (ρ:Nat->Option Value) (heap:List (Nat×Option aY)) (b:Nat):Prop:=
 F b /\ ∀ id B u,bd heap id=some B->B.owns=true->ρ id=some u->dY u≠some b
def w6 (cn:Array MapEntry) (clock:Nat):Prop:=(cn.toList.map (·.born)).Nodup /\ ∀ e ∈ cn.toList,e.born<clock
abbrev lm (e:MapEntry):Value×Value:=(e.key,e.val)
def uK (base:Nat->Prop) (ρ:Nat->Option Value) (S:Nat->Prop) (w:World) (id:Nat):aY->Prop
 | .box t cs=>∃ b us,ρ id=some (.pointer (some ⟨b,0,none⟩))/\base b/\w.heap[b]? = some (.cells us t (0,0))/\us.size=cs.length /\
   ∀ j,j<cs.length->cC ρ S w (bx cs j) (us.getD j undef)/\(us.getD j undef).oneCell' = true
 | .row e s l=>0<s /\ ∃ v xs,ρ id=some v/\(w.ownsRow 0 e s v l.length xs /\ ∀ b,dY v=some b->base b)/\(∀ i,i<l.length->(bH l i).length=s) /\
   ∀ i j,i<l.length->j<s -> ∃ u,xs[i * s+j]? = some u/\fP S w (bx (bH l i) j) u/\u.oneCell' = true
 | .gb l=>∃ v,ρ id=some v/\fP S w (.ro l) v /\ ∀ a n c,v = .slice (some a) n c->a.off=0
 | .map q es=>∃ b cn clock,ρ id=some (.map (some b))/\base b/\w.heap[b]? = some (.map cn clock)/\cn.toList.map (fun e=>(e.key,e.val))=es/\(∀ p,p ∈ es->h6 q p.1=true/\p.2.oneCell' = true)/\w6 cn clock
 | .obj o=>∃ b,ρ id=some (.pointer (some ⟨b,0,none⟩))/\base b/\w.heap[b]? = some o
 | .mQ e l=>∃ b cap dp iY,ρ id=some (.slice (some ⟨b,0,none⟩) l.length cap)/\base b/\w.heap[b]? = some (.cells dp e iY)/\(l.length<=cap/\cap<=maxLen/\cap<=dp.size)/\(∀ j,j<cap -> ¬ (iY.1<=j/\j<iY.2))/\(∀ j,j<l.length->dp.getD j undef = .int .u8 ((l.getD j default).toNat:Int))
 | .jG e s l=>0<s /\ ∃ v xs,ρ id=some v/\(w.ownsRow 0 e s v l.length xs /\ ∀ b,dY v=some b->base b)/\(∀ i,i<l.length->(bH l i).length=s) /\
   ∀ i j,i<l.length->j<s -> ∃ u,xs[i * s+j]? = some u/\cC ρ S w (bx (bH l i) j) u/\u.oneCell' = true
 | .jX q es=>∃ b cn clock,ρ id=some (.map (some b))/\S b/\w.heap[b]? = some (.map cn clock)/\cn.toList.map lm=es/\(∀ p,p ∈ es->h6 q p.1=true/\p.2.oneCell' = true)/\w6 cn clock
 | .iter left dp=>∃ r b cn clock since seen aS,ρ id=some (.pointer (some ⟨r,0,none⟩))/\base r/\w.heap[r]? = some (.mapIter (some b) since seen aS)/\S b/\w.heap[b]? = some (.map cn clock) /\
   (w6 cn clock/\(∀ e ∈ cn.toList,e.born<since)/\since<=aS/\since<=clock/\(leftOf cn seen).toList.map lm=left/\(∀ e ∈ cn.toList,e.key.oneCell' = true/\e.val.oneCell' = true) /\
   ∀ oP,dp=some oP->aS=clock /\ ∃ (AB:Array Nat) (e:MapEntry),seen=AB.push e.born/\e ∈ cn.toList/\lm e=oP)
theorem uK.mono {base:Nat->Prop} {ρ bm:Nat->Option Value} {S hN:Nat->Prop} {w aE:World} {id:Nat} {B:aY} (h:uK base ρ S w id B) (hw:dX S w aE)
  (hS:∀ b,S b->b<w.heap.size->hN b) (e7:∀ id u,ρ id=some u->bm id=some u) (iZ:B.owns=true -> ∀ u b,ρ id=some u->dY u=some b->b<w.heap.size->aE.heap[b]? = w.heap[b]?):uK base bm hN aE id B:=by
 cases B with
 | box t cs=>
  obtain ⟨b,us,I,J,av,bl,dm⟩:=h
  have cj:=(Array.getElem?_eq_some_iff.1 av).1
  exact⟨b,us,e7 _ _ I,J,by rw[iZ rfl _ b I rfl cj];exact av,bl,fun j ah=>⟨(dm j ah).1.mono hw hS e7,(dm j ah).2⟩⟩
 | row e s l=>
  obtain ⟨af,v,xs,I,J,av,bl⟩:=h
  refine ⟨af,v,xs,e7 _ _ I,⟨⟨J.1.1,?_⟩,J.2⟩,av,fun i j hi ah=>?_⟩
  ·rcases J.1.2 with hn | ⟨g,cap,dp,rfl,hb,aj,rest⟩
   ·exact .inl hn
   ·exact .inr ⟨g,cap,dp,rfl,hb,by rw[iZ rfl _ g I rfl (Array.getElem?_eq_some_iff.1 aj).1];exact aj,rest⟩
  ·obtain ⟨u,hu,aw,aa⟩:=bl i j hi ah
   exact⟨u,hu,aw.mono hw hS,aa⟩
 | gb l=>
  obtain ⟨v,I,J,av⟩:=h
  exact⟨v,e7 _ _ I,J.mono hw hS,av⟩
 | map q es=>
  obtain ⟨b,cn,clock,I,J,av,bl⟩:=h
  exact⟨b,cn,clock,e7 _ _ I,J,by rw[iZ rfl _ b I rfl (Array.getElem?_eq_some_iff.1 av).1];exact av,bl⟩
 | obj o=>
  obtain ⟨b,I,J,av⟩:=h
  exact⟨b,e7 _ _ I,J,by rw[iZ rfl _ b I rfl (Array.getElem?_eq_some_iff.1 av).1];exact av⟩
 | mQ be ln=>
  obtain ⟨b,cap,dp,iY,I,J,av,bl⟩:=h
  exact⟨b,cap,dp,iY,e7 _ _ I,J,by rw[iZ rfl _ b I rfl (Array.getElem?_eq_some_iff.1 av).1];exact av,bl⟩
 | jG e s l=>
  obtain ⟨af,v,xs,I,J,av,bl⟩:=h
  refine ⟨af,v,xs,e7 _ _ I,⟨⟨J.1.1,?_⟩,J.2⟩,av,fun i j hi ah=>?_⟩
  ·rcases J.1.2 with hn | ⟨g,cap,dp,rfl,hb,aj,rest⟩
   ·exact .inl hn
   ·exact .inr ⟨g,cap,dp,rfl,hb,by rw[iZ rfl _ g I rfl (Array.getElem?_eq_some_iff.1 aj).1];exact aj,rest⟩
  ·obtain ⟨u,hu,aw,aa⟩:=bl i j hi ah
   exact⟨u,hu,aw.mono hw hS e7,aa⟩
 | jX q es=>
  obtain ⟨b,cn,clock,I,J,av,bl⟩:=h
  have cj:=(Array.getElem?_eq_some_iff.1 av).1
  exact⟨b,cn,clock,e7 _ _ I,hS b J cj,by rw[hw b J cj];exact av,bl⟩
 | iter left dp=>
  obtain ⟨r,b,cn,clock,since,seen,aS,I,J,av,bl,dm,fr⟩:=h
  have cj:=(Array.getElem?_eq_some_iff.1 dm).1
  exact⟨r,b,cn,clock,since,seen,aS,e7 _ _ I,J,by rw[iZ rfl _ r I rfl (Array.getElem?_eq_some_iff.1 av).1];exact av,hS b bl cj,by rw[hw b bl cj];exact dm,fr⟩
structure mw (base:Nat->Prop) (w aE:World):Prop where
 os:aE.os=w.os
 tape:aE.tape=w.tape
 output:aE.output=w.output
 size:w.heap.size<=aE.heap.size
 block:∀ k,k<w.heap.size -> ¬ base k->aE.heap[k]? = w.heap[k]?
theorem mw.refl (base:Nat->Prop) (w:World):mw base w w:=⟨rfl,rfl,rfl,Nat.le_refl _,fun _ _ _=>rfl⟩
theorem mw.trans {base:Nat->Prop} {a b c:World} (h:mw base a b) (k:mw base b c):mw base a c:=
 ⟨k.os.trans h.os,k.tape.trans h.tape,k.output.trans h.output,Nat.le_trans h.size k.size,fun i hi hb=>(k.block i (Nat.lt_of_lt_of_le hi h.size) hb).trans (h.block i hi hb)⟩
theorem mw.JS {base:Nat->Prop} {w aE:World} (h:Below w.heap.size w aE):mw base w aE:=⟨h.os,h.tape,h.output,h.size,fun k ag _=>h.block k ag⟩
theorem mw.AD {w aE:World} (h:mw (fun b=>w.heap.size<=b) w aE):Below w.heap.size w aE:=⟨h.os,h.tape,h.output,h.size,fun k ag=>h.block k ag (by omega)⟩
structure HRel0 (F:Nat->Prop) (base:Nat->Prop) (ρ:Nat->Option Value) (heap:List (Nat×Option aY)) (next:Nat) (w0 w:World):Prop where
 below:mw base w0 w
 fC:∀ b,w.heap.size<=b->base b
 sup:∀ id u,ρ id=some u->id<next/\u.oneCell' = true
 inj:∀ id dQ B bT u ev b,bd heap id=some B->bd heap dQ = some bT -> B.owns=true->bT.owns=true->ρ id=some u->ρ dQ = some ev -> dY u=some b->dY ev = some b->id=dQ
 dB:∀ id B,bd heap id=some B->uK base ρ (bC F ρ heap) w id B
structure en (F:Nat->Prop) (base:Nat->Prop) (ρ:Nat->Option Value) (heap:List (Nat×Option aY)) (next:Nat) (w0 w:World):Prop extends HRel0 F base ρ heap next w0 w where
 ch:∀ b,base b->F b
structure eR (ρ:Nat->Option Value) (S:Nat->Prop) (w:World) (ad:Nat) (env:List (Nat×V)) (a:Act):Prop where
 size:a.tmps.size=ad
 defers:a.defers=[]
 slot:∀ t v,cG env t=some v->cC ρ S w v (a.tmps.getD t undef)
theorem HRel0.owned {F:Nat->Prop} {base:Nat->Prop} {ρ:Nat->Option Value} {heap:List (Nat×Option aY)} {next:Nat} {w0 w:World} (h:HRel0 F base ρ heap next w0 w) {id b:Nat} {B:aY} {u:Value}
  (aB:bd heap id=some B) (aa:B.owns=true) (hu:ρ id=some u) (hb:dY u=some b):base b/\b<w.heap.size:=by
 have:=h.dB id B aB
 cases B with
 | box t cs=>
  obtain ⟨gO,us,I,J,av,_⟩:=this
  rw[hu] at I;cases I
  simp only[dY,Option.some.injEq] at hb
  subst hb
  exact⟨J,(Array.getElem?_eq_some_iff.1 av).1⟩
 | row e s l=>
  obtain ⟨af,v,xs,I,J,_⟩:=this
  rw[hu] at I;cases I
  refine ⟨J.2 b hb,(J.1.lt b ?_).2⟩
  rcases J.1.2 with⟨rfl,_⟩ | ⟨g,_,_,rfl,_⟩
  ·simp[dY] at hb
  ·simpa[dY,Value.ownBlock] using hb
 | gb l=>cases aa
 | map q es=>
  obtain ⟨gO,cn,clock,I,J,av,_⟩:=this
  rw[hu] at I;cases I
  simp only[dY,Option.some.injEq] at hb
  subst hb
  exact⟨J,(Array.getElem?_eq_some_iff.1 av).1⟩
 | obj o=>
  obtain ⟨gO,I,J,av⟩:=this
  rw[hu] at I;cases I
  simp only[dY,Option.some.injEq] at hb
  subst hb
  exact⟨J,(Array.getElem?_eq_some_iff.1 av).1⟩
 | mQ be ln=>
  obtain ⟨gO,cap,dp,iY,I,J,av,bl⟩:=this
  rw[hu] at I;cases I
  simp only[dY,Option.some.injEq] at hb
  subst hb
  exact⟨J,(Array.getElem?_eq_some_iff.1 av).1⟩
 | jG e s l=>
  obtain ⟨af,v,xs,I,J,_⟩:=this
  rw[hu] at I;cases I
  refine ⟨J.2 b hb,(J.1.lt b ?_).2⟩
  rcases J.1.2 with⟨rfl,_⟩ | ⟨g,_,_,rfl,_⟩
  ·simp[dY] at hb
  ·simpa[dY,Value.ownBlock] using hb
 | jX q es=>cases aa
 | iter left dp=>
  obtain ⟨r,gO,cn,clock,since,seen,aS,I,J,av,_⟩:=this
  rw[hu] at I;cases I
  simp only[dY,Option.some.injEq] at hb
  subst hb
  exact⟨J,(Array.getElem?_eq_some_iff.1 av).1⟩
theorem en.step {F:Nat->Prop} {base:Nat->Prop} {ρ bm:Nat->Option Value} {heap cS:List (Nat×Option aY)} {next next':Nat} {w0 w aE:World} (f:Nat) (row:Option Nat)
  (h:en F base ρ heap next w0 w) (aj:w.grownBy aE row) (uL:∀ k,row=some k->base k /\ ¬ bC F ρ heap k)
  (e7:∀ id u,ρ id=some u->bm id=some u) (RR:∀ id u,bm id=some u->id<next' /\ u.oneCell' = true)
  (hold:∀ id B,id≠f->bd cS id=some B->bd heap id=some B /\ ∃ u,ρ id=some u/\(B.owns=true -> ∀ b,dY u=some b->row≠some b))
  (wx:∀ B u b,bd cS f=some B->B.owns=true->bm f=some u->dY u=some b->w.heap.size<=b\/(¬ bC F ρ heap b /\ ∀ id bT ev,id≠f->bd cS id=some bT -> bT.owns=true->bm id=some ev -> dY ev ≠ some b))
  (hf:∀ B,bd cS f=some B->(∀ b,bC F ρ heap b->b<w.heap.size->bC F bm cS b)->dX (bC F ρ heap) w aE -> uK base bm (bC F bm cS) aE f B) :
  en F base bm cS next' w0 aE /\ dX (bC F ρ heap) w aE /\ (∀ b,bC F ρ heap b->b<w.heap.size->bC F bm cS b):=by
 have eV:dX (bC F ρ heap) w aE:=fun b hS cj=>aj.block b cj (fun e=>(uL b e.symm).2 hS)
 have tb:∀ b,bC F ρ heap b->b<w.heap.size->bC F bm cS b:=by
  intro b hS cj
  refine ⟨hS.1,fun id B u aB aa hu hb=>?_⟩
  by_cases hid:id=f
  ·subst hid
   rcases wx B u b aB aa hu hb with I|I
   ·omega
   ·exact I.1 hS
  ·obtain ⟨I,ev,ec,_⟩:=hold id B hid aB
   have:=e7 _ _ ec
   rw[hu] at this;cases this
   exact hS.2 id B u I aa ec hb
 refine ⟨⟨⟨h.below.trans ⟨aj.os,aj.tape,aj.output,aj.size,fun k ag hb=>aj.block k ag (fun e=>hb (uL k e.symm).1)⟩,fun b hb=>h.fC b (Nat.le_trans aj.size hb),RR,?_,?_⟩,h.ch⟩,eV,tb⟩
 ·intro id dQ B bT u ev b aB cJ aa eJ hu ec hb dl
  by_cases aH:id=f
  ·by_cases aN:dQ = f
   ·rw[aH,aN]
   ·exfalso
    subst aH
    obtain ⟨I,v,hv,EP⟩:=hold dQ bT aN cJ
    have e:=e7 _ _ hv
    rw[ec] at e;cases e
    have aq:=(h.owned I eJ hv dl).2
    rcases wx B u b aB aa hu hb with J|J
    ·omega
    ·exact J.2 dQ bT ev aN cJ eJ ec dl
  ·by_cases aN:dQ = f
   ·exfalso
    subst aN
    obtain ⟨I,v,hv,EP⟩:=hold id B aH aB
    have e:=e7 _ _ hv
    rw[hu] at e;cases e
    have aq:=(h.owned I aa hv hb).2
    rcases wx bT ev b cJ eJ ec dl with J|J
    ·omega
    ·exact J.2 id B u aH aB aa hu hb
   ·obtain ⟨I,v,hv,_⟩:=hold id B aH aB
    obtain ⟨qw,cX,w7,_⟩:=hold dQ bT aN cJ
    have e:=e7 _ _ hv
    rw[hu] at e;cases e
    have lo:=e7 _ _ w7
    rw[ec] at lo;cases lo
    exact h.inj id dQ B bT u ev b I qw aa eJ hv w7 hb dl
 ·intro id B aB
  by_cases aH:id=f
  ·subst aH
   exact hf B aB tb eV
  ·obtain ⟨I,v,hv,EP⟩:=hold id B aH aB
   refine (h.dB id B I).mono eV tb e7 (fun aa u b hu hb cj=>?_)
   rw[hv] at hu;cases hu
   exact aj.block b cj (fun e=>EP aa b hb e.symm)
theorem en.grow {F:Nat->Prop} {base:Nat->Prop} {ρ:Nat->Option Value} {heap:List (Nat×Option aY)} {next:Nat} {w0 w aE:World} (h:en F base ρ heap next w0 w) (hb:Below w.heap.size w aE) :
  en F base ρ heap next w0 aE:=by
 have ap:dX (bC F ρ heap) w aE:=fun b _ cj=>hb.block b cj
 refine ⟨⟨h.below.trans (.JS hb),fun b gP=>h.fC b (Nat.le_trans hb.size gP),h.sup,h.inj,fun id B aB=>?_⟩,h.ch⟩
 exact(h.dB id B aB).mono ap (fun b h _=>h) (fun _ _ h=>h) (fun _ u b _ _ cj=>hb.block b cj)
theorem eR.mono {ρ bm:Nat->Option Value} {S hN:Nat->Prop} {w aE:World} {ad:Nat} {env:List (Nat×V)} {a:Act} (h:eR ρ S w ad env a) (hw:dX S w aE)
  (hS:∀ b,S b->b<w.heap.size->hN b) (e7:∀ id u,ρ id=some u->bm id=some u):eR bm hN aE ad env a:=
 ⟨h.size,h.defers,fun t v hv=>(h.slot t v hv).mono hw hS e7⟩
theorem eR.put {ρ:Nat->Option Value} {S:Nat->Prop} {w:World} {ad:Nat} {env:List (Nat×V)} {a:Act} (h:eR ρ S w ad env a) {d:Nat} (hd:d<ad) {v:V} {u:Value} (hv:cC ρ S w v u) :
  eR ρ S w ad ((d,v) :: env) (a.put (some d) u):=by
 refine ⟨by simp[Act.put,h.size],h.defers,fun t x U=>?_⟩
 simp only[cG] at U
 by_cases sF:d=t
 ·subst sF
  simp only[Nat.beq_refl,cond_true,Option.some.injEq] at U
  subst U
  have:(a.put (some d) u).tmps.getD d undef=u:=by simp[Act.put,h.size,hd]
  rw[this];exact hv
 ·have hb:Nat.beq d t=false:=by
   cases hb:Nat.beq d t
   ·rfl
   ·exact absurd (Nat.eq_of_beq_eq_true hb) sF
  rw[hb] at U
  simp only[cond_false] at U
  have:(a.put (some d) u).tmps.getD t undef=a.tmps.getD t undef:=by
   simp only[Act.put]
   rw[Array.getD_eq_getD_getElem?,Array.getD_eq_getD_getElem?,Array.getElem?_setIfInBounds_ne sF]
  rw[this];exact h.slot t x U
def aI (env:List (Nat×V)):Operand->Option V
 | .tmp t=>cG env t
 | .const (.agg cs)=>bif cs.toList.all (fun u=>u.oneCell') then some (.agg (cs.toList.map .lit)) else none
 | .const (.tuple _)=>none
 | .const v=>some (.lit v)
 | .func f=>some (.gi f [])
 | .global _=>none
theorem c0 {ρ:Nat->Option Value} {S:Nat->Prop} {w:World} {ad:Nat} {env:List (Nat×V)} {a:Act} (h:eR ρ S w ad env a) {x:Operand} {v:V} (U:aI env x=some v):cC ρ S w v (a.eval x):=by
 cases x with
 | tmp t=>exact h.slot t v U
 | const c=>
  cases c
  case agg cs=>
   simp only[aI] at U
   cases hb:cs.toList.all (fun u=>u.oneCell') with
   | false=>rw[hb] at U;cases U
   | true=>
    rw[hb] at U
    simp only[cond_true,Option.some.injEq] at U
    subst U
    refine .agg (by simp) (fun j ah=>?_)
    simp only[List.length_map,Array.length_toList] at ah
    have aH:bx (cs.toList.map V.lit) j = .lit (cs.getD j undef):=by
     unfold bx
     rw[List.getD_eq_getElem?_getD,List.getElem?_map,List.getElem?_eq_getElem jD]
     simp[Array.getD_eq_getD_getElem?,ah]
    rw[aH]
    refine .pure (.lit _ ?_)
    rw[List.all_eq_true] at hb
    refine hb _ ?_
    simp[Array.getD_eq_getD_getElem?,ah]
  case tuple=>simp[aI] at U
  all_goals (simp only[aI,Option.some.injEq] at U;subst U;exact .pure (.lit _ rfl))
 | func f=>
  simp only[aI,Option.some.injEq] at U
  subst U
  exact .gi (by simp) (fun j ah=>by simp at ah)
 | global g=>simp[aI] at U
def uM (ρ:Nat->Option Value) (G:List Nat) (b:Nat):Prop:=∃ id u,id ∈ G/\ρ id=some u/\dY u=some b
structure Ext (B:Nat->Prop) (w aE:World):Prop where
 size:w.heap.size<=aE.heap.size
 block:∀ k,k<w.heap.size -> ¬ B k->aE.heap[k]? = w.heap[k]?
theorem Ext.refl (B:Nat->Prop) (w:World):Ext B w w:=⟨Nat.le_refl _,fun _ _ _=>rfl⟩
theorem Ext.trans {B:Nat->Prop} {a b c:World} (h:Ext B a b) (k:Ext B b c):Ext B a c:=
 ⟨Nat.le_trans h.size k.size,fun i hi aB=>(k.block i (Nat.lt_of_lt_of_le hi h.size) aB).trans (h.block i hi aB)⟩
theorem Ext.JS {B:Nat->Prop} {w aE:World} (h:Below w.heap.size w aE):Ext B w aE:=⟨h.size,fun k ag _=>h.block k ag⟩
def tc (heap:List (Nat×Option aY)):List Nat->Bool
 | []=>true
 | id :: r=>match bd heap id with
  | some B=>B.owns && tc heap r
  | none=>false
theorem EQ {heap:List (Nat×Option aY)}:∀ {G:List Nat},tc heap G=true -> ∀ id,id ∈ G -> ∃ B,bd heap id=some B/\B.owns=true
 | [],_,_,h=>by cases h
 | i :: r,h,id,hm=>by
  simp only[tc] at h
  cases aB:bd heap i with
  | none=>rw[aB] at h;cases h
  | some B=>
   rw[aB] at h
   simp only[Bool.and_eq_true] at h
   rcases List.mem_cons.1 hm with rfl|hm
   ·exact⟨B,aB,h.1⟩
   ·exact EQ h.2 id hm
def bw (P:Program) (G:List Nat) (o:Oper) (st:ba) (v:V):Prop:=
 ∀ F base w0 ρ a w,HRel0 F base ρ st.heap st.next w0 w->eR ρ (bC F ρ st.heap) w st.ad st.env a->tc st.heap G=true ->
  ∃ u,cC ρ (bC F ρ st.heap) w v u /\ ∀ aE,Ext (uM ρ G) w aE -> (execOp a.eval o).run P aE = .ok (.value u) aE
def Next (n0:Nat) (F:Nat->Prop) (base:Nat->Prop) (w0:World) (ρ:Nat->Option Value) (w:World) (bG:ba) (gQ:Act) (aE:World):Prop:=
 ∃ bm,en F base bm bG.heap bG.next w0 aE /\ eR bm (bC F bm bG.heap) aE bG.ad bG.env gQ /\ (∀ id u,ρ id=some u->bm id=some u)/\(∀ id,id<n0->bm id=ρ id)
def GStep (P:Program) (n0:Nat) (o:Oper) (st bG:ba):Prop:=
 ∀ F base w0 ρ a w,en F base ρ st.heap st.next w0 w->eR ρ (bC F ρ st.heap) w st.ad st.env a->o.wp P a w (Next n0 F base w0 ρ w bG) (fun _ _ _=>False)
section
variable {P:Program} {G:List Nat} {o:Oper} {st:ba}
theorem hs {v:V} (h:∀ F base w0 ρ a w,HRel0 F base ρ st.heap st.next w0 w->eR ρ (bC F ρ st.heap) w st.ad st.env a -> ∃ u,cC ρ (bC F ρ st.heap) w v u /\ ∀ aE,(execOp a.eval o).run P aE = .ok (.value u) aE):bw P G o st v:=
 fun F base w0 ρ a w ak ay _=>let ⟨u,I,J⟩:=h F base w0 ρ a w ak ay;⟨u,I,fun aE _=>J aE⟩
theorem RS {x:Operand} {v:V} (aa:o.op = .move x) (U:aI st.env x=some v):bw P G o st v:=
 hs fun F base w0 ρ a w ak ay=>⟨_,c0 ay U,fun aE=>by unfold execOp;rw[aa];rfl⟩
theorem RT {x:Operand} {v:V} (aa:o.op = .assign x) (U:aI st.env x=some v):bw P G o st v:=
 hs fun F base w0 ρ a w ak ay=>⟨_,c0 ay U,fun aE=>by unfold execOp;rw[aa];rfl⟩
theorem ff {ρ:Nat->Option Value} {S:Nat->Prop} {w:World} {u ev:Value} (h:cC ρ S w (.lit u) ev):ev = u:=by
 cases h with
 | pure h=>cases h;rfl
theorem RU {ρ:Nat->Option Value} {S:Nat->Prop} {w:World} {u ev:Value} (h:cC ρ S w (.lit u) ev):u.oneCell' = true:=by
 cases h with
 | pure h=>cases h;assumption
theorem RV {c x y:Operand} {v:V} (aa:o.op = .pick c x y) (hc:aI st.env c=some (.lit (.bool true))) (U:aI st.env x=some v):bw P G o st v:=
 hs fun F base w0 ρ a w ak ay=>⟨_,c0 ay U,fun aE=>by unfold execOp;rw[aa];simp only[];rw[ff (c0 ay hc)];rfl⟩
theorem RW {c x y:Operand} {v:V} (aa:o.op = .pick c x y) (hc:aI st.env c=some (.lit (.bool false))) (U:aI st.env y=some v):bw P G o st v:=
 hs fun F base w0 ρ a w ak ay=>⟨_,c0 ay U,fun aE=>by unfold execOp;rw[aa];simp only[];rw[ff (c0 ay hc)];rfl⟩
theorem ja {op:BinOp} {T cA:TypeId} {x y:Operand} {u v r:Value} (aa:o.op = .binOp op T x y cA) (U:aI st.env x=some (.lit u)) (ai:aI st.env y=some (.lit v))
  (hr:∀ w,(do eqGuard op T x y u v;binOp op T u v:Sem Value).run P w = .ok r w) (I:r.oneCell' = true):bw P G o st (.lit r):=
 hs fun F base w0 ρ a w ak ay=>⟨r,.pure (.lit _ I),fun aE=>by
  unfold execOp;rw[aa];simp only[];rw[ff (c0 ay U),ff (c0 ay ai)]
  have:=hr aE
  simp only[Sem.run_bind] at this ⊢
  rw[this];rfl⟩
theorem JT {T cA:TypeId} {x y:Operand} {k:IntKind} {m n:Int} (aa:o.op = .binOp .add T x y cA) (U:aI st.env x=some (.lit (.int k m))) (ai:aI st.env y=some (.lit (.int k n))) :
  bw P G o st (.lit (.int k (k.wrap (m+n)))):=ja aa U ai (fun w=>by simp[eqGuard,binOp,Op.intArith,go_sem]) rfl
theorem JU {T cA:TypeId} {x y:Operand} {k:IntKind} {m n:Int} (aa:o.op = .binOp .sub T x y cA) (U:aI st.env x=some (.lit (.int k m))) (ai:aI st.env y=some (.lit (.int k n))) :
  bw P G o st (.lit (.int k (k.wrap (m - n)))):=ja aa U ai (fun w=>by simp[eqGuard,binOp,Op.intArith,go_sem]) rfl
theorem JV {T cA:TypeId} {x y:Operand} {k:IntKind} {m n:Int} (aa:o.op = .binOp .mul T x y cA) (U:aI st.env x=some (.lit (.int k m))) (ai:aI st.env y=some (.lit (.int k n))) :
  bw P G o st (.lit (.int k (k.wrap (m * n)))):=ja aa U ai (fun w=>by simp[eqGuard,binOp,Op.intArith,go_sem]) rfl
theorem AE {T cA:TypeId} {x y:Operand} {k:IntKind} {m n:Int} (aa:o.op = .binOp .quo T x y cA) (U:aI st.env x=some (.lit (.int k m))) (ai:aI st.env y=some (.lit (.int k n))) (hn:n≠0) :
  bw P G o st (.lit (.int k (k.wrap (m.tdiv n)))):=ja aa U ai (fun w=>by simp[eqGuard,binOp,Op.intDiv,go_sem,hn]) rfl
theorem AF {T cA:TypeId} {x y:Operand} {k:IntKind} {m n:Int} (aa:o.op = .binOp .rem T x y cA) (U:aI st.env x=some (.lit (.int k m))) (ai:aI st.env y=some (.lit (.int k n))) (hn:n≠0) :
  bw P G o st (.lit (.int k (m.tmod n))):=ja aa U ai (fun w=>by simp[eqGuard,binOp,Op.intDiv,go_sem,hn]) rfl
theorem RX {T cA:TypeId} {x y:Operand} {k:IntKind} {m n:Int} (aa:o.op = .binOp .lss T x y cA) (U:aI st.env x=some (.lit (.int k m))) (ai:aI st.env y=some (.lit (.int k n))) :
  bw P G o st (.lit (.bool (decide (m<n)))):=ja aa U ai (fun w=>by simp[eqGuard,binOp,Op.intCmp,go_sem]) rfl
theorem RY {T cA:TypeId} {x y:Operand} {k:IntKind} {m n:Int} (aa:o.op = .binOp .leq T x y cA) (U:aI st.env x=some (.lit (.int k m))) (ai:aI st.env y=some (.lit (.int k n))) :
  bw P G o st (.lit (.bool (decide (m<=n)))):=ja aa U ai (fun w=>by simp[eqGuard,binOp,Op.intCmp,go_sem]) rfl
theorem RZ {T cA:TypeId} {x y:Operand} {k:IntKind} {m n:Int} (aa:o.op = .binOp .gtr T x y cA) (U:aI st.env x=some (.lit (.int k m))) (ai:aI st.env y=some (.lit (.int k n))) :
  bw P G o st (.lit (.bool (decide (n<m)))):=ja aa U ai (fun w=>by simp[eqGuard,binOp,Op.intCmp,go_sem]) rfl
theorem R0 {T cA:TypeId} {x y:Operand} {k:IntKind} {m n:Int} (aa:o.op = .binOp .geq T x y cA) (U:aI st.env x=some (.lit (.int k m))) (ai:aI st.env y=some (.lit (.int k n))) :
  bw P G o st (.lit (.bool (decide (n<=m)))):=ja aa U ai (fun w=>by simp[eqGuard,binOp,Op.intCmp,go_sem]) rfl
theorem JW (m n:Int):(m == n)=decide (m=n):=by rw[Bool.eq_iff_iff];simp
theorem R1 (m n:Int):(m != n)=decide (¬ m=n):=by rw[Bool.eq_iff_iff];simp
theorem R2 {T cA:TypeId} {x y:Operand} {k:IntKind} {m n:Int} (aa:o.op = .binOp .eql T x y cA) (U:aI st.env x=some (.lit (.int k m))) (ai:aI st.env y=some (.lit (.int k n))) :
  bw P G o st (.lit (.bool (decide (m=n)))):=ja aa U ai (fun w=>by rw[<- JW];simp[eqGuard,binOp,Op.intCmp,go_sem]) rfl
theorem R3 {T cA:TypeId} {x y:Operand} {k:IntKind} {m n:Int} (aa:o.op = .binOp .neq T x y cA) (U:aI st.env x=some (.lit (.int k m))) (ai:aI st.env y=some (.lit (.int k n))) :
  bw P G o st (.lit (.bool (decide (¬ m=n)))):=ja aa U ai (fun w=>by rw[<- R1];simp[eqGuard,binOp,Op.intCmp,go_sem]) rfl
def ee (op:BinOp) (k:IntKind) (m n:Int):Int:=
 k.wrap (((match op with | .and=>BitVec.ofInt k.bits m &&& BitVec.ofInt k.bits n | .or=>BitVec.ofInt k.bits m ||| BitVec.ofInt k.bits n | .xor=>BitVec.ofInt k.bits m ^^^ BitVec.ofInt k.bits n|_=>BitVec.ofInt k.bits m &&& ~~~BitVec.ofInt k.bits n):BitVec k.bits).toNat:Int)
theorem R4 {T cA:TypeId} {x y:Operand} {k:IntKind} {m n:Int} (aa:o.op = .binOp .and T x y cA) (U:aI st.env x=some (.lit (.int k m))) (ai:aI st.env y=some (.lit (.int k n))) :
  bw P G o st (.lit (.int k (ee .and k m n))):=ja aa U ai (fun w=>by simp[eqGuard,binOp,Op.intBits,ee,Sem.run_pure]) rfl
theorem R5 {T cA:TypeId} {x y:Operand} {k:IntKind} {m n:Int} (aa:o.op = .binOp .or T x y cA) (U:aI st.env x=some (.lit (.int k m))) (ai:aI st.env y=some (.lit (.int k n))) :
  bw P G o st (.lit (.int k (ee .or k m n))):=ja aa U ai (fun w=>by simp[eqGuard,binOp,Op.intBits,ee,Sem.run_pure]) rfl
theorem R6 {T cA:TypeId} {x y:Operand} {k:IntKind} {m n:Int} (aa:o.op = .binOp .xor T x y cA) (U:aI st.env x=some (.lit (.int k m))) (ai:aI st.env y=some (.lit (.int k n))) :
  bw P G o st (.lit (.int k (ee .xor k m n))):=ja aa U ai (fun w=>by simp[eqGuard,binOp,Op.intBits,ee,Sem.run_pure]) rfl
theorem R7 {T cA:TypeId} {x y:Operand} {k:IntKind} {m n:Int} (aa:o.op = .binOp .andNot T x y cA) (U:aI st.env x=some (.lit (.int k m))) (ai:aI st.env y=some (.lit (.int k n))) :
  bw P G o st (.lit (.int k (ee .andNot k m n))):=ja aa U ai (fun w=>by simp[eqGuard,binOp,Op.intBits,ee,Sem.run_pure]) rfl
theorem ER {T cA:TypeId} {x y:Operand} {k bq:IntKind} {m n:Int} (aa:o.op = .binOp .shl T x y cA) (U:aI st.env x=some (.lit (.int k m))) (ai:aI st.env y=some (.lit (.int bq n))) (hn:0<=n) :
  bw P G o st (.lit (.int k (k.wrap (m * 2 ^ min n.toNat k.bits)))):=ja aa U ai (fun w=>by simp[eqGuard,binOp,Op.shift,go_sem,show ¬ n<0 by omega]) rfl
theorem ES {T cA:TypeId} {x y:Operand} {k bq:IntKind} {m n:Int} (aa:o.op = .binOp .shr T x y cA) (U:aI st.env x=some (.lit (.int k m))) (ai:aI st.env y=some (.lit (.int bq n))) (hn:0<=n) :
  bw P G o st (.lit (.int k (m.fdiv (2 ^ min n.toNat k.bits)))):=ja aa U ai (fun w=>by simp[eqGuard,binOp,Op.shift,go_sem,show ¬ n<0 by omega]) rfl
theorem ET (m n:ByteArray):(m.toList == n.toList)=decide (m=n):=by
 rw[Bool.eq_iff_iff]
 simp only[beq_iff_eq,decide_eq_true_eq,ByteArray.toList_eq]
 constructor
 ·intro h;cases m;cases n;simp_all
 ·intro h;rw[h]
theorem R8 (m n:ByteArray):(!(m.toList == n.toList))=decide (¬ m=n):=by rw[ET];simp
theorem JX {T cA:TypeId} {x y:Operand} {m n:ByteArray} (aa:o.op = .binOp .eql T x y cA) (U:aI st.env x=some (.lit (.string m))) (ai:aI st.env y=some (.lit (.string n))) :
  bw P G o st (.lit (.bool (decide (m=n)))):=ja aa U ai (fun w=>by rw[<- ET];simp[eqGuard,binOp,Op.stringOp,Sem.run_pure]) rfl
theorem JY {T cA:TypeId} {x y:Operand} {m n:ByteArray} (aa:o.op = .binOp .neq T x y cA) (U:aI st.env x=some (.lit (.string m))) (ai:aI st.env y=some (.lit (.string n))) :
  bw P G o st (.lit (.bool (decide (¬ m=n)))):=ja aa U ai (fun w=>by rw[<- R8];simp[eqGuard,binOp,Op.stringOp,Sem.run_pure]) rfl
theorem AG {T cA:TypeId} {x y:Operand} {m n:ByteArray} (aa:o.op = .binOp .add T x y cA) (U:aI st.env x=some (.lit (.string m))) (ai:aI st.env y=some (.lit (.string n))) (hn:m.size+n.size<=9223372036854775807) :
  bw P G o st (.lit (.string (m++n))):=ja aa U ai (fun w=>by
   have h:¬ ((m.size+n.size:Nat):Int) > IntKind.i64.max:=by
    have:IntKind.i64.max=9223372036854775807:=by decide
    rw[this];omega
   simp only[eqGuard,binOp,Op.stringOp]
   simp only[if_neg h]
   rfl) rfl
theorem EU {op:UnOp} {T:TypeId} {x:Operand} {u r:Value} (aa:o.op = .unOp op T x) (U:aI st.env x=some (.lit u)) (hr:∀ w,(Op.unary op u).run P w = .ok r w) (I:r.oneCell' = true):bw P G o st (.lit r):=
 hs fun F base w0 ρ a w ak ay=>⟨r,.pure (.lit _ I),fun aE=>by
  unfold execOp;rw[aa];simp only[];rw[ff (c0 ay U)]
  simp only[Sem.run_bind,hr aE];rfl⟩
theorem R9 {T:TypeId} {x:Operand} {b:Bool} (aa:o.op = .unOp .not T x) (U:aI st.env x=some (.lit (.bool b))):bw P G o st (.lit (.bool (!b))):=
 EU aa U (fun _=>rfl) rfl
theorem Sa {T:TypeId} {x:Operand} {k:IntKind} {n:Int} (aa:o.op = .unOp .neg T x) (U:aI st.env x=some (.lit (.int k n))):bw P G o st (.lit (.int k (k.wrap (0 - n)))):=
 EU aa U (fun _=>rfl) rfl
theorem Sb {T:TypeId} {x:Operand} {k:IntKind} {n:Int} (aa:o.op = .unOp .xor T x) (U:aI st.env x=some (.lit (.int k n))):bw P G o st (.lit (.int k (ee .xor k (if k.signed then -1 else k.max) n))):=
 EU aa U (fun _=>rfl) rfl
theorem JZ {T bR:TypeId} {x:Operand} {k bq:IntKind} {n:Int} {d:TypeDesc} (aa:o.op = .convert T bR x) (U:aI st.env x=some (.lit (.int k n))) (aV:P.underlying T=some d) (h3:P.underlying bR=some (.int bq)) :
  bw P G o st (.lit (.int bq (bq.wrap n))):=
 hs fun F base w0 ρ a w ak ay=>⟨_,.pure (.lit _ rfl),fun aE=>by
  unfold execOp;rw[aa];simp only[];rw[ff (c0 ay U)]
  simp[convert,run_underlying aV,run_underlying h3,Conv.intToInt,go_sem]⟩
theorem Sc {T bR:TypeId} {x:Operand} {s:ByteArray} (aa:o.op = .convert T bR x) (U:aI st.env x=some (.lit (.string s))) (aV:P.underlying T=some .string) (h3:P.underlying bR=some .string) :
  bw P G o st (.lit (.string s)):=
 hs fun F base w0 ρ a w ak ay=>⟨_,.pure (.lit _ rfl),fun aE=>by
  unfold execOp;rw[aa];simp only[];rw[ff (c0 ay U)]
  simp[convert,run_underlying aV,run_underlying h3,go_sem]⟩
theorem Sd {x:Operand} {i:Nat} {vs:List V} {v:V} (aa:o.op = .extract x i) (U:aI st.env x=some (.b0 vs)) (hi:vs[i]? = some v):bw P G o st v:=
 hs fun F base w0 ρ a w ak ay=>by
  have h:=c0 ay U
  generalize hu:a.eval x=u at h
  cases h with
  | pure h=>cases h
  | @b0 _ us hn h=>
   have cj:i<vs.length:=(List.getElem?_eq_some_iff.1 hi).1
   have:=h i cj
   have e:bx vs i=v:=by unfold bx;rw[List.getD_eq_getElem?_getD,hi];rfl
   rw[e] at this
   refine ⟨_,this,fun aE=>?_⟩
   unfold execOp;rw[aa];simp only[];rw[hu]
   have aN:us[i]? = some (us.getD i undef):=by rw[Array.getD_eq_getD_getElem?,Array.getElem?_eq_getElem (by omega)];rfl
   simp only[Instr.extract,aN];rfl
theorem uN {b:Builtin} {x:Operand} {ts:Array TypeId} {v:V} (aa:o.op = .call { callee:=.builtin b,args:=#[x],argTypes:=ts })
  (hr:∀ F base w0 ρ a w,HRel0 F base ρ st.heap st.next w0 w->eR ρ (bC F ρ st.heap) w st.ad st.env a -> ∃ r,cC ρ (bC F ρ st.heap) w v r /\ ∀ cs aE,(builtin b ts o.type cs #[a.eval x]).run P aE = .ok (.value r) aE):bw P G o st v:=
 hs fun F base w0 ρ a w ak ay=>by
  obtain ⟨r,I,J⟩:=hr F base w0 ρ a w ak ay
  refine ⟨r,I,fun aE=>?_⟩
  unfold execOp;rw[aa]
  simp only[resolve,invoke,Sem.run_bind,Sem.run_pure,Result.andThen_ok,List.map_toArray,List.map_cons,List.map_nil]
  exact J _ aE
theorem J0 {b:Builtin} {x y:Operand} {ts:Array TypeId} {v:V} (aa:o.op = .call { callee:=.builtin b,args:=#[x,y],argTypes:=ts })
  (hr:∀ F base w0 ρ a w,HRel0 F base ρ st.heap st.next w0 w->eR ρ (bC F ρ st.heap) w st.ad st.env a -> ∃ r,cC ρ (bC F ρ st.heap) w v r /\ ∀ cs aE,(builtin b ts o.type cs #[a.eval x,a.eval y]).run P aE = .ok (.value r) aE):bw P G o st v:=
 hs fun F base w0 ρ a w ak ay=>by
  obtain ⟨r,I,J⟩:=hr F base w0 ρ a w ak ay
  refine ⟨r,I,fun aE=>?_⟩
  unfold execOp;rw[aa]
  simp only[resolve,invoke,Sem.run_bind,Sem.run_pure,Result.andThen_ok,List.map_toArray,List.map_cons,List.map_nil]
  exact J _ aE
theorem EV {x:Operand} {t:TypeId} {s:ByteArray} (aa:o.op = .call { callee:=.builtin .len,args:=#[x],argTypes:=#[t] }) (U:aI st.env x=some (.lit (.string s))) (ht:P.underlying t=some .string) :
  bw P G o st (.lit (.int .i64 s.size)):=
 uN aa fun F base w0 ρ a w ak ay=>⟨_,.pure (.lit _ rfl),fun cs aE=>by
  rw[ff (c0 ay U)]
  simp[builtin,Builtin.len_,run_underlying ht,Sem.run_bind,Sem.run_pure,goInt]⟩
theorem AH {t e:TypeId} (ht:P.underlying t=some (.slice e)) (A:Option Addr) (n c:Nat) (ty:TypeId) (cs:Array Bool) (w:World):(builtin .len #[t] ty cs #[.slice A n c]).run P w = .ok (.value (.int .i64 n)) w:=by
 simp[builtin,Builtin.len_,run_underlying ht,Sem.run_bind,Sem.run_pure,goInt]
theorem Se {x:Operand} {t e:TypeId} {l:List (List V)} (aa:o.op = .call { callee:=.builtin .len,args:=#[x],argTypes:=#[t] }) (U:aI st.env x=some (.ro l)) (ht:P.underlying t=some (.slice e)) :
  bw P G o st (.lit (.int .i64 l.length)):=
 uN aa fun F base w0 ρ a w ak ay=>⟨_,.pure (.lit _ rfl),fun cs aE=>by
  have h:=c0 ay U
  generalize a.eval x=u at h
  cases h with
  | pure h=>cases h with
   | ro=>exact AH ht _ _ _ _ _ _⟩
theorem Sf {x:Operand} {t e:TypeId} {A:Option Addr} {n c:Nat} (aa:o.op = .call { callee:=.builtin .len,args:=#[x],argTypes:=#[t] }) (U:aI st.env x=some (.lit (.slice A n c))) (ht:P.underlying t=some (.slice e)) :
  bw P G o st (.lit (.int .i64 n)):=
 uN aa fun F base w0 ρ a w ak ay=>⟨_,.pure (.lit _ rfl),fun cs aE=>by
  rw[ff (c0 ay U)];exact AH ht _ _ _ _ _ _⟩
theorem HRel0.row {F:Nat->Prop} {base:Nat->Prop} {ρ:Nat->Option Value} {heap:List (Nat×Option aY)} {next:Nat} {w0 w:World} (h:HRel0 F base ρ heap next w0 w) {id:Nat} {e:TypeId} {s:Nat} {l:List (List V)} (hh:bd heap id=some (.row e s l)) :
  ∃ A c,ρ id=some (.slice A l.length c):=by
 obtain ⟨_,v,xs,I,⟨J,_⟩,_⟩:=h.dB _ _ hh
 rcases J.2 with⟨rfl,af⟩ | ⟨g,cap,dp,rfl,_⟩
 ·exact⟨_,_,by rw[af];exact I⟩
 ·exact⟨_,_,I⟩
theorem HRel0.gb {F:Nat->Prop} {base:Nat->Prop} {ρ:Nat->Option Value} {heap:List (Nat×Option aY)} {next:Nat} {w0 w:World} (h:HRel0 F base ρ heap next w0 w) {id:Nat} {l:List (List V)} (hh:bd heap id=some (.gb l)) :
  ∃ A c,ρ id=some (.slice A l.length c):=by
 obtain ⟨v,I,J,_⟩:=h.dB _ _ hh
 cases J with
 | ro=>exact⟨_,_,I⟩
theorem mR {ρ:Nat->Option Value} {S:Nat->Prop} {w:World} {id:Nat} {u:Value} (h:cC ρ S w (.own id) u):ρ id=some u:=by
 cases h with
 | pure h=>cases h
 | own h=>exact h
theorem Sg {x:Operand} {t qn:TypeId} {id:Nat} {e:TypeId} {s:Nat} {l:List (List V)} (aa:o.op = .call { callee:=.builtin .len,args:=#[x],argTypes:=#[t] }) (U:aI st.env x=some (.own id)) (hh:bd st.heap id=some (.row e s l)) (ht:P.underlying t=some (.slice qn)) :
  bw P G o st (.lit (.int .i64 l.length)):=
 uN aa fun F base w0 ρ a w ak ay=>⟨_,.pure (.lit _ rfl),fun cs aE=>by
  have h:=mR (c0 ay U)
  obtain ⟨A,c,J⟩:=ak.row hh
  rw[h] at J;injection J with J
  rw[J];exact AH ht _ _ _ _ _ _⟩
theorem Sh {x:Operand} {t qn:TypeId} {id:Nat} {l:List (List V)} (aa:o.op = .call { callee:=.builtin .len,args:=#[x],argTypes:=#[t] }) (U:aI st.env x=some (.own id)) (hh:bd st.heap id=some (.gb l)) (ht:P.underlying t=some (.slice qn)) :
  bw P G o st (.lit (.int .i64 l.length)):=
 uN aa fun F base w0 ρ a w ak ay=>⟨_,.pure (.lit _ rfl),fun cs aE=>by
  have h:=mR (c0 ay U)
  obtain ⟨A,c,J⟩:=ak.gb hh
  rw[h] at J;injection J with J
  rw[J];exact AH ht _ _ _ _ _ _⟩
theorem Si {x:Operand} {t e:TypeId} {n:Nat} (aa:o.op = .call { callee:=.builtin .len,args:=#[x],argTypes:=#[t] }) (ht:P.underlying t=some (.array n e)) :
  bw P G o st (.lit (.int .i64 n)):=
 uN aa fun F base w0 ρ a w ak ay=>⟨_,.pure (.lit _ rfl),fun cs aE=>by
  simp[builtin,Builtin.len_,run_underlying ht,Sem.run_bind,Sem.run_pure,goInt]⟩
theorem Sj {x y:Operand} {ts:Array TypeId} {k:IntKind} {m n:Int} (aa:o.op = .call { callee:=.builtin .max,args:=#[x,y],argTypes:=ts }) (U:aI st.env x=some (.lit (.int k m))) (ai:aI st.env y=some (.lit (.int k n))) :
  bw P G o st (.lit (.int k (max m n))):=
 J0 aa fun F base w0 ρ a w ak ay=>⟨_,.pure (.lit _ rfl),fun cs aE=>by
  rw[ff (c0 ay U),ff (c0 ay ai)]
  have e:max m n=if n > m then n else m:=by split <;> omega
  rw[e]
  simp[builtin,Builtin.max_,Builtin.max2,Sem.run_pure]⟩
theorem Sk {x y:Operand} {ts:Array TypeId} {k:IntKind} {m n:Int} (aa:o.op = .call { callee:=.builtin .min,args:=#[x,y],argTypes:=ts }) (U:aI st.env x=some (.lit (.int k m))) (ai:aI st.env y=some (.lit (.int k n))) :
  bw P G o st (.lit (.int k (min m n))):=
 J0 aa fun F base w0 ρ a w ak ay=>⟨_,.pure (.lit _ rfl),fun cs aE=>by
  rw[ff (c0 ay U),ff (c0 ay ai)]
  have e:min m n=if n<m then n else m:=by split <;> omega
  rw[e]
  simp[builtin,Builtin.min_,Builtin.min2,Sem.run_pure]⟩
theorem qp (b o n:Nat):(Addr.mk b o none).add n=⟨b,o+n,none⟩:=by
 unfold Addr.add
 by_cases h:n=0 <;> simp[h]
theorem Sl {T:TypeId} {fields:Array Field} {f:Nat} {fd:Field} {uO:TypeInfo} (aV:P.underlying T=some (.struct fields)) (hf:fields[f]? = some fd) (hi:P.info? fd.type=some uO) (hn:uO.size≠0) (b off:Nat) (w:World) :
  (Instr.fieldAt T (.pointer (some ⟨b,off,none⟩)) f).run P w = .ok (.pointer (some ⟨b,off+fd.offset,none⟩)) w:=by
 simp[Instr.fieldAt,Instr.sureAddr,fieldPlace,sizeOf,typeInfo,run_underlying aV,hf,hi,hn,Sem.run_bind,Sem.run_pure,program,Sem.run,qp]
def w8 (P:Program) (T:TypeId) (f:Nat):Option Nat:=
 match P.underlying T with
 | some (.struct fields)=>match fields[f]? with
  | some fd=>match P.info? fd.type with
   | some uO=>bif Nat.beq uO.size 0 then none else some fd.offset
   | none=>none
  | none=>none
 | _=>none
theorem J1 {T:TypeId} {f n:Nat} (h:w8 P T f=some n) (b off:Nat) (w:World) :
  (Instr.fieldAt T (.pointer (some ⟨b,off,none⟩)) f).run P w = .ok (.pointer (some ⟨b,off+n,none⟩)) w:=by
 unfold w8 at h
 split at h
 ·rename_i fields aV
  split at h
  ·rename_i fd hf
   split at h
   ·rename_i uO hi
    cases hb:Nat.beq uO.size 0 with
    | true=>rw[hb] at h;cases h
    | false=>
     rw[hb] at h
     simp only[cond_false,Option.some.injEq] at h
     subst h
     exact Sl aV hf hi (fun e=>by rw[e] at hb;cases hb) b off w
   ·cases h
  ·cases h
 ·cases h
theorem pv {ρ:Nat->Option Value} {S:Nat->Prop} {w:World} {id i s j:Nat} {u:Value} (h:cC ρ S w (.ptr id i s j) u):∃ r b,ρ id=some r/\dY r=some b/\u = .pointer (some ⟨b,i * s+j,none⟩):=by
 cases h with
 | pure h=>cases h
 | ptr h hb=>exact⟨_,_,h,hb,rfl⟩
theorem EW {ρ:Nat->Option Value} {S:Nat->Prop} {w:World} {cs:List V} {u:Value} (h:cC ρ S w (.e9 cs) u):∃ (b off:Nat) (us:Nat->Value),u = .pointer (some ⟨b,off,none⟩)/\(0<cs.length->S b)/\(∀ j,j<cs.length->w.cell? ⟨b,off+j,none⟩=some (us j)) /\ ∀ j,j<cs.length->fP S w (bx cs j) (us j):=by
 cases h with
 | pure h=>cases h
 | e9 us hS hc hr=>exact⟨_,_,us,rfl,hS,hc,hr⟩
theorem AI (cs:List V) (n j:Nat):bx (cs.drop n) j=bx cs (n+j):=by
 unfold bx
 rw[List.getD_eq_getElem?_getD,List.getD_eq_getElem?_getD,List.getElem?_drop]
theorem Sm {ρ:Nat->Option Value} {S:Nat->Prop} {w:World} {cs:List V} {b off:Nat} {us:Nat->Value} (n:Nat) (hS:0<cs.length->S b) (hc:∀ j,j<cs.length->w.cell? ⟨b,off+j,none⟩=some (us j)) (hr:∀ j,j<cs.length->fP S w (bx cs j) (us j)) :
  cC ρ S w (.e9 (cs.drop n)) (.pointer (some ⟨b,off+n,none⟩)):=by
 refine .e9 (fun j=>us (n+j)) (fun h=>hS (by simp at h;omega)) (fun j ah=>?_) (fun j ah=>?_)
 ·simp only[List.length_drop] at ah
  rw[Nat.add_assoc]
  exact hc (n+j) (by omega)
 ·simp only[List.length_drop] at ah
  rw[AI]
  exact hr (n+j) (by omega)
theorem Sn {T:TypeId} {x:Operand} {f n id i s j:Nat} (aa:o.op = .fieldAddr T x f) (U:aI st.env x=some (.ptr id i s j)) (hf:w8 P T f=some n):bw P G o st (.ptr id i s (j+n)):=
 hs fun F base w0 ρ a w ak ay=>by
  obtain ⟨r,b,I,J,av⟩:=pv (c0 ay U)
  refine ⟨_,.ptr I J,fun aE=>?_⟩
  unfold execOp;rw[aa];simp only[];rw[av]
  simp only[Sem.run_bind,J1 hf,Nat.add_assoc];rfl
theorem Sp {T:TypeId} {x:Operand} {f n:Nat} {cs:List V} (aa:o.op = .fieldAddr T x f) (U:aI st.env x=some (.e9 cs)) (hf:w8 P T f=some n):bw P G o st (.e9 (cs.drop n)):=
 hs fun F base w0 ρ a w ak ay=>by
  obtain ⟨b,off,us,I,J,av,bl⟩:=EW (c0 ay U)
  refine ⟨_,Sm n J av bl,fun aE=>?_⟩
  unfold execOp;rw[aa];simp only[];rw[I]
  simp only[Sem.run_bind,J1 hf];rfl
end
section
variable {P:Program} {G:List Nat} {o:Oper} {st:ba}
def dt (P:Program) (T:TypeId):Option Nat:=(P.info? T).map (·.size)
theorem qx {T n:Nat} (h:dt P T=some n) (w:World):(sizeOf T).run P w = .ok n w:=by
 unfold dt at h
 cases hi:P.info? T with
 | none=>rw[hi] at h;cases h
 | some i=>
  rw[hi] at h;injection h with h
  simp[sizeOf,typeInfo,hi,Sem.run_bind,Sem.run_pure,program,Sem.run,h]
def jH (P:Program) (T:TypeId):Option Bool:=
 match P.underlying T with
 | some (.struct _)=>some true
 | some (.array _ _)=>some true
 | some _=>some false
 | none=>none
theorem w9 {T:TypeId} {b:Bool} (h:jH P T=some b) (w:World):(isAgg T).run P w = .ok b w:=by
 unfold jH at h
 cases hu:P.underlying T with
 | none=>rw[hu] at h;cases h
 | some d=>
  rw[hu] at h
  cases d <;> (injection h with h;subst h;simp[isAgg,run_underlying hu,Sem.run_bind,Sem.run_pure])
theorem je {α:Type} [Inhabited α] (f:α->List V) {l:List α} {i:Nat} (h:i<l.length):bH (l.map f) i=f (l.getD i default):=by
 unfold bH
 rw[List.getD_eq_getElem?_getD,List.getElem?_map,List.getElem?_eq_getElem h,List.getD_eq_getElem?_getD,List.getElem?_eq_getElem h]
 rfl
theorem J2 {T e s:Nat} (aV:P.underlying T=some (.slice e)) (ap:dt P e=some s) (b off len c n:Nat) (k:IntKind) (hn:n<len) (w:World) :
  (Instr.indexAt T (.slice (some ⟨b,off,none⟩) len c) (.int k n)).run P w = .ok (.pointer (some ⟨b,off+n * s,none⟩)) w:=by
 simp[Instr.indexAt,asIntOf,run_underlying aV,qx ap,Sem.run_bind,hn,qp]
theorem eo {T e s n:Nat} {x y:Operand} {l:List (List V)} {k:IntKind} {m:Int} {cs:List V} (aa:o.op = .indexAddr T x y) (U:aI st.env x=some (.ro l)) (ai:aI st.env y=some (.lit (.int k m)))
  (hm:m=(n:Int)) (hn:n<l.length) (aV:P.underlying T=some (.slice e)) (ap:dt P e=some s) (aq:cs.length=s) (he:bH l n=cs):bw P G o st (.e9 cs):=
 hs fun F base w0 ρ a w ak ay=>by
  subst he hm
  have h:=c0 ay U
  generalize hu:a.eval x=u at h
  cases h with
  | pure h=>cases h with
   | ro l A c dv b off us hc J3 aw b1 dZ jY hrel=>
    obtain ⟨EX,rB⟩:=b1 (by omega)
    have qy:dv = s:=by rw[<- aq,dZ n hn]
    subst qy
    refine ⟨.pointer (some ⟨b,off+n * dv,none⟩),.e9 (fun j=>us n j) (fun _=>rB) (fun j ah=>jY n j hn (by omega)) (fun j ah=>hrel n j hn (by omega)),fun aE=>?_⟩
    unfold execOp;rw[aa];simp only[];rw[hu,ff (c0 ay ai),EX]
    simp only[Sem.run_bind,J2 aV ap _ _ _ _ _ _ hn];rfl
theorem J4 {T e s n id lo:Nat} {x y:Operand} {l:List (List V)} {k:IntKind} {m:Int} (aa:o.op = .indexAddr T x y) (U:aI st.env x=some (.own id)) (hh:bd st.heap id=some (.row lo s l)) (ai:aI st.env y=some (.lit (.int k m)))
  (hm:m=(n:Int)) (hn:n<l.length) (aV:P.underlying T=some (.slice e)) (ap:dt P e=some s):bw P G o st (.ptr id n s 0):=
 hs fun F base w0 ρ a w ak ay=>by
  subst hm
  have h:=mR (c0 ay U)
  obtain ⟨_,v,xs,I,⟨J,_⟩,_⟩:=ak.dB _ _ hh
  rw[h] at I;injection I with I
  rcases J.2 with⟨_,af⟩ | ⟨g,cap,dp,hv,_⟩
  ·omega
  ·rw[hv] at I
   refine ⟨.pointer (some ⟨g,n * s+0,none⟩),.ptr (b:=g) h (by rw[I];rfl),fun aE=>?_⟩
   unfold execOp;rw[aa];simp only[];rw[I,ff (c0 ay ai)]
   simp only[Sem.run_bind,J2 aV ap _ _ _ _ _ _ hn,Nat.zero_add,Nat.add_zero];rfl
theorem Sq {T e s N:Nat} (aV:P.underlying T=some (.array N e)) (ap:dt P e=some s) (b off n:Nat) (k:IntKind) (hn:n<N) (w:World) :
  (Instr.indexAt T (.pointer (some ⟨b,off,none⟩)) (.int k n)).run P w = .ok (.pointer (some ⟨b,off+n * s,none⟩)) w:=by
 simp[Instr.indexAt,asIntOf,Instr.sureAddr,run_underlying aV,qx ap,Sem.run_bind,hn,qp]
theorem fq {T e s n N id i z j:Nat} {x y:Operand} {k:IntKind} {m:Int} (aa:o.op = .indexAddr T x y) (U:aI st.env x=some (.ptr id i z j)) (ai:aI st.env y=some (.lit (.int k m)))
  (hm:m=(n:Int)) (aV:P.underlying T=some (.array N e)) (hn:n<N) (ap:dt P e=some s):bw P G o st (.ptr id i z (j+n * s)):=
 hs fun F base w0 ρ a w ak ay=>by
  subst hm
  obtain ⟨r,b,I,J,av⟩:=pv (c0 ay U)
  refine ⟨_,.ptr I J,fun aE=>?_⟩
  unfold execOp;rw[aa];simp only[];rw[av,ff (c0 ay ai)]
  simp only[Sem.run_bind,Sq aV ap _ _ _ _ hn,Nat.add_assoc];rfl
theorem EY {T n:Nat} {x y:Operand} {s:ByteArray} {k:IntKind} {m:Int} (aa:o.op = .index T x y) (U:aI st.env x=some (.lit (.string s))) (ai:aI st.env y=some (.lit (.int k m)))
  (hm:m=(n:Int)) (hn:n<s.size) (aV:P.underlying T=some .string):bw P G o st (.lit (.int .u8 ((s.data.toList.getD n 0).toNat:Int))):=
 hs fun F base w0 ρ a w ak ay=>by
  subst hm
  refine ⟨_,.pure (.lit _ rfl),fun aE=>?_⟩
  unfold execOp;rw[aa];simp only[];rw[ff (c0 ay U),ff (c0 ay ai)]
  have e:s[n]? = some (s.data.toList.getD n 0):=by
   have J:s[n]? = some (s[n]'hn):=getElem?_pos s n hn
   rw[J,List.getD_eq_getElem?_getD,List.getElem?_eq_getElem (by simpa using hn),Option.getD_some]
   rfl
  simp[Instr.index,asIntOf,run_underlying aV,Sem.run_bind,Sem.run_pure,e]
theorem J5 {T:TypeId} (aV:jH P T=some false) {b off:Nat} {u:Value} {w:World} (h:w.cell? ⟨b,off,none⟩=some u):(Instr.loadAt T (.pointer (some ⟨b,off,none⟩))).run P w = .ok u w:=by
 simp[Instr.loadAt,Instr.sureAddr,loadVar,w9 aV,Sem.run_bind,load,Sem.run,h]
theorem J6 {T:TypeId} {n:Nat} (aV:jH P T=some true) (hn:dt P T=some n) {b off:Nat} {us:Array Value} {w:World} (hu:us.size=n) (h:∀ j,j<n->w.cell? ⟨b,off+j,none⟩=some (us.getD j undef)) :
  (Instr.loadAt T (.pointer (some ⟨b,off,none⟩))).run P w = .ok (.agg us) w:=by
 have aq:=run_loadCells_list (P:=P) (w:=w) ⟨b,off,none⟩ us.toList (fun j v ah=>by
  rw[qp]
  have cj:j<us.toList.length:=(List.getElem?_eq_some_iff.1 ah).1
  rw[h j (by simp at cj;omega),<- ah]
  simp at cj
  simp[cj])
 simp only[Array.length_toList,hu] at aq
 simp[Instr.loadAt,Instr.sureAddr,loadVar,w9 aV,qx hn,Sem.run_bind,aq]
def Reads (G:List Nat) (st:ba) (v:V) (cs:List V):Prop:=
 ∀ F base w0 ρ w u,HRel0 F base ρ st.heap st.next w0 w->tc st.heap G=true->cC ρ (bC F ρ st.heap) w v u ->
  ∃ (b off:Nat) (us:Nat->Value),u = .pointer (some ⟨b,off,none⟩)/\(∀ j,j<cs.length->cC ρ (bC F ρ st.heap) w (bx cs j) (us j)) /\ ∀ aE,Ext (uM ρ G) w aE -> ∀ j,j<cs.length->aE.cell? ⟨b,off+j,none⟩=some (us j)
theorem nB {T:TypeId} {x:Operand} {v u:V} {cs:List V} (aa:o.op = .load T x) (U:aI st.env x=some v) (aV:jH P T=some false) (hr:Reads G st v cs) (hc:cs[0]? = some u):bw P G o st u:=
 fun F base w0 ρ a w ak ay jZ=>by
  obtain ⟨b,off,us,I,J,av⟩:=hr F base w0 ρ w _ ak jZ (c0 ay U)
  have cj:0<cs.length:=(List.getElem?_eq_some_iff.1 hc).1
  have e:bx cs 0=u:=by unfold bx;rw[List.getD_eq_getElem?_getD,hc];rfl
  refine ⟨us 0,by rw[<- e];exact J 0 cj,fun aE ka=>?_⟩
  unfold execOp;rw[aa];simp only[];rw[I]
  have:=av aE ka 0 cj
  simp only[Nat.add_zero] at this
  simp only[Sem.run_bind,J5 aV this];rfl
theorem mn {T:TypeId} {n:Nat} {x:Operand} {v:V} {cs:List V} (aa:o.op = .load T x) (U:aI st.env x=some v) (aV:jH P T=some true) (hn:dt P T=some n) (hr:Reads G st v cs) (hc:n<=cs.length):bw P G o st (.agg (cs.take n)):=
 fun F base w0 ρ a w ak ay jZ=>by
  obtain ⟨b,off,us,I,J,av⟩:=hr F base w0 ρ w _ ak jZ (c0 ay U)
  refine ⟨.agg ((Array.range n).map us),.agg (by simp;omega) (fun j ah=>?_),fun aE ka=>?_⟩
  ·simp only[List.length_take] at ah
   have aH:bx (cs.take n) j=bx cs j:=by unfold bx;rw[List.getD_eq_getElem?_getD,List.getD_eq_getElem?_getD,List.getElem?_take,if_pos (by omega)]
   have aN:((Array.range n).map us).getD j undef=us j:=by simp[show j<n by omega]
   rw[aH,aN]
   exact J j (by omega)
  ·unfold execOp;rw[aa];simp only[];rw[I]
   have:=J6 (P:=P) (T:=T) (n:=n) aV hn (b:=b) (off:=off) (us:=(Array.range n).map us) (w:=aE) (by simp) (fun j ah=>by
    rw[av aE ka j (by omega)];simp[ah])
   simp only[Sem.run_bind,this];rfl
theorem J7 {F:Nat->Prop} {ρ:Nat->Option Value} {heap:List (Nat×Option aY)} {G:List Nat} (jZ:tc heap G=true) {b:Nat} (h:bC F ρ heap b):¬ uM ρ G b:=by
 rintro ⟨id,u,hm,hu,hb⟩
 obtain ⟨B,aB,aa⟩:=EQ jZ id hm
 exact h.2 id B u aB aa hu hb
theorem Ext.cell {B:Nat->Prop} {w aE:World} (h:Ext B w aE) {b o:Nat} {u:Value} (aB:¬ B b) (hc:w.cell? ⟨b,o,none⟩=some u):aE.cell? ⟨b,o,none⟩=some u:=by
 have:=h.block b (pq hc) aB
 rw[<- hc];simp[World.cell?,this]
theorem Sr {cs:List V}:Reads G st (.e9 cs) cs:=
 fun F base w0 ρ w u ak jZ hv=>by
  obtain ⟨b,off,us,I,J,av,bl⟩:=EW hv
  exact⟨b,off,us,I,fun j ah=>.pure (bl j ah),fun aE ka j ah=>ka.cell (J7 jZ (J (by omega))) (av j ah)⟩
def pw (id:Nat):List Nat->Bool
 | []=>true
 | x :: r=>bif Nat.beq x id then false else pw id r
theorem J8 {id:Nat}:∀ {G:List Nat},pw id G=true->id ∉ G
 | [],_=>by simp
 | x :: r,h=>by
  simp only[pw] at h
  cases hb:Nat.beq x id with
  | true=>rw[hb] at h;cases h
  | false=>
   rw[hb] at h
   simp only[List.mem_cons,not_or]
   exact⟨fun e=>by rw[e] at hb;simp at hb,J8 h⟩
theorem AJ {F:Nat->Prop} {base:Nat->Prop} {ρ:Nat->Option Value} {heap:List (Nat×Option aY)} {next:Nat} {w0 w:World} (ak:HRel0 F base ρ heap next w0 w) {G:List Nat} (jZ:tc heap G=true) {id b:Nat} {B:aY} {u:Value}
  (hid:pw id G=true) (aB:bd heap id=some B) (aa:B.owns=true) (hu:ρ id=some u) (hb:dY u=some b):¬ uM ρ G b:=by
 rintro ⟨i,v,hm,hv,Ss⟩
 obtain ⟨bT,cJ,eJ⟩:=EQ jZ i hm
 exact J8 hid (ak.inj i id bT B v u b cJ aB eJ aa hv hu Ss hb ▸ hm)
theorem J9 {id j t s:Nat} {cs:List V} (hh:bd st.heap id=some (.box t cs)) (aj:pw id G=true):Reads G st (.ptr id 0 s j) (cs.drop j):=
 fun F base w0 ρ w u ak jZ hv=>by
  obtain ⟨r,b,I,J,av⟩:=pv hv
  obtain ⟨gO,us,aH,aN,bS,eK,iI⟩:=ak.dB _ _ hh
  rw[I] at aH;injection aH with aH;subst aH
  simp only[dY,Option.some.injEq] at J
  subst J
  refine ⟨gO,j,fun i=>us.getD (j+i) undef,by rw[av];simp,fun i hi=>?_,fun aE ka i hi=>?_⟩
  ·rw[AI];simp only[List.length_drop] at hi;exact(iI (j+i) (by omega)).1
  ·simp only[List.length_drop] at hi
   refine ka.cell (AJ ak jZ aj hh rfl I rfl) ?_
   unfold World.cell?
   simp only[bS,Option.isSome_none,Bool.false_eq_true,if_false]
   rw[Array.getElem?_eq_getElem (by omega)]
   congr 1
   simp[show j+i<us.size by omega]
theorem Ka {w:World} {base e s n i j:Nat} {v:Value} {xs:List Value} {g:Nat} {u:Value} (h:w.ownsRow base e s v n xs) (hb:dY v=some g) (hu:xs[i * s+j]? = some u):w.cell? ⟨g,i * s+j,none⟩=some u:=by
 have:=h.cells (g:=g) (by rcases h.2 with⟨rfl,_⟩ | ⟨Xw,_,_,rfl,_⟩ <;> simp_all [dY,Value.ownBlock]) _ _ hu
 rwa [qp,Nat.zero_add] at this
theorem im {id i j e s:Nat} {l:List (List V)} {cs:List V} (hh:bd st.heap id=some (.row e s l)) (hi:i<l.length) (aj:pw id G=true) (he:bH l i=cs):Reads G st (.ptr id i s j) (cs.drop j):=
 fun F base w0 ρ w u ak jZ hv=>by
  subst he
  obtain ⟨r,b,I,J,av⟩:=pv hv
  obtain ⟨b8,v,xs,aH,⟨aN,_⟩,bS,eK⟩:=ak.dB _ _ hh
  rw[I] at aH;injection aH with aH;subst aH
  have hlen:(bH l i).length=s:=bS i hi
  refine ⟨b,i * s+j,fun k=>xs.getD (i * s+j+k) undef,av,fun k ag=>?_,fun aE ka k ag=>?_⟩
  ·rw[AI];simp only[List.length_drop] at ag
   obtain ⟨u,hu,aw,_⟩:=eK i (j+k) hi (by omega)
   have:xs.getD (i * s+j+k) undef=u:=by rw[List.getD_eq_getElem?_getD,Nat.add_assoc,hu];rfl
   show cC _ _ _ _ (xs.getD (i * s+j+k) undef)
   rw[this];exact .pure aw
  ·simp only[List.length_drop] at ag
   obtain ⟨u,hu,aw,_⟩:=eK i (j+k) hi (by omega)
   have e:xs.getD (i * s+j+k) undef=u:=by rw[List.getD_eq_getElem?_getD,Nat.add_assoc,hu];rfl
   show _=some (xs.getD (i * s+j+k) undef)
   rw[e]
   refine ka.cell (AJ ak jZ aj hh rfl I J) ?_
   rw[Nat.add_assoc]
   exact Ka aN J hu
end
section
variable {P:Program} {o:Oper} {st:ba} {n0:Nat}
def lO (ρ:Nat->Option Value) (n:Nat) (u:Value):Nat->Option Value:=fun id=>if id=n then some u else ρ id
theorem hx (ρ:Nat->Option Value) (n:Nat) (u:Value):lO ρ n u n=some u:=if_pos rfl
theorem mx (ρ:Nat->Option Value) {n id:Nat} (u:Value) (h:id≠n):lO ρ n u id=ρ id:=if_neg h
def ba.put (st:ba) (d:Option Tmp) (v:V):ba:=
 match d with
 | some d=>{ st with env:=(d,v) :: st.env }
 | none=>st
def ba.newAt (st:ba) (k:Nat) (d:Tmp) (v:V) (B:aY):ba:={ env:=(d,v) :: st.env,heap:=(k,some B) :: st.heap,next:=st.next,ad:=st.ad }
def ba.new (st:ba) (d:Tmp) (v:V) (B:aY):ba:={ env:=(d,v) :: st.env,heap:=(st.next,some B) :: st.heap,next:=st.next+1,ad:=st.ad }
def EZ (k:Nat) (F:Nat->Prop) (base:Nat->Prop) (w0:World) (ρ:Nat->Option Value) (w:World) (bG:ba) (gQ:Act) (aE:World):Prop:=
 ∃ bm,en F base bm bG.heap bG.next w0 aE /\ eR bm (bC F bm bG.heap) aE bG.ad bG.env gQ /\ (∀ id u,ρ id=some u->bm id=some u)/\(∀ id,id≠k->bm id=ρ id)
def ko (P:Program) (k:Nat) (o:Oper) (st bG:ba):Prop:=
 ∀ F base w0 ρ a w,en F base ρ st.heap st.next w0 w->eR ρ (bC F ρ st.heap) w st.ad st.env a->ρ k=none->k<st.next->o.wp P a w (EZ k F base w0 ρ w bG) (fun _ _ _=>False)
theorem rH {a:Act} {w:World} {K rI:Act->World->Prop} (h:∀ a w,K a w->rI a w) (hh:o.wp P a w K (fun _ _ _=>False)):o.wp P a w rI (fun _ _ _=>False):=by
 unfold Oper.wp at *
 generalize (execOp a.eval o).run P w=r at *
 cases r with
 | ok n aE=>
  cases n <;> simp only[Oper.upon] at hh ⊢ <;>
   first
    | exact h _ _ hh
    | exact Calls.mono hh (fun e St he=>by cases e <;> first|exact h _ _ he|exact he)
    | exact Rows.mono hh (fun _ _ he=>h _ _ he)
 | halt x aE=>cases x <;> simp only[Oper.upon] at hh ⊢ <;> exact hh
theorem n5 {bG:ba} (hn0:n0<=st.next) (h:ko P st.next o { st with next:=st.next+1 } bG):GStep P n0 o st bG:=fun F base w0 ρ a w ak ay=>by
 have eH:ρ st.next=none:=by
  cases h:ρ st.next with
  | none=>rfl
  | some x=>exact absurd (ak.sup _ _ h).1 (Nat.lt_irrefl _)
 refine rH ?_ (h F base w0 ρ a w ⟨⟨ak.below,ak.fC,fun id u h=>⟨Nat.lt_succ_of_lt (ak.sup id u h).1,(ak.sup id u h).2⟩,ak.inj,ak.dB⟩,ak.ch⟩ ay eH (Nat.lt_succ_self _))
 rintro gQ aE ⟨bm,I,J,av,bl⟩
 exact⟨bm,I,J,av,fun id hid=>bl id (by omega)⟩
theorem ea {heap:List (Nat×Option aY)} {n id:Nat} {B:Option aY}:bd ((n,B) :: heap) id=if n=id then B else bd heap id:=by
 simp only[bd]
 by_cases h:n=id
 ·subst h;simp
 ·rw[if_neg h]
  have hb:Nat.beq n id=false:=by
   cases hb:Nat.beq n id
   ·rfl
   ·exact absurd (Nat.eq_of_beq_eq_true hb) h
  rw[hb];rfl
theorem rJ {k:Nat} {F:Nat->Prop} {base:Nat->Prop} {ρ:Nat->Option Value} {w0 w aE:World} {a:Act} {B:aY} {u:Value} {d:Nat} {v:V}
  (ak:en F base ρ st.heap st.next w0 w) (ay:eR ρ (bC F ρ st.heap) w st.ad st.env a) (eH:ρ k=none) (ag:k<st.next) (hw:Below w.heap.size w aE)
  (hu:B.owns=true -> ∀ b,dY u=some b->w.heap.size<=b) (hd:d<st.ad) (I:u.oneCell' = true)
  (aB:∀ S,(∀ b,bC F ρ st.heap b->b<w.heap.size->S b)->(B.owns=false -> ∀ b,w.heap.size<=b->S b)->dX (bC F ρ st.heap) w aE -> uK base (lO ρ k u) S aE k B)
  (hv:∀ S,cC (lO ρ k u) S aE v u):EZ k F base w0 ρ w (st.newAt k d v B) (a.put (some d) u) aE:=by
 have nF:∀ id x,ρ id=some x->lO ρ k u id=some x:=fun id x h=>by rw[mx _ _ (fun e=>by rw[e,eH] at h;cases h)];exact h
 have nG:B.owns=false -> ∀ b,w.heap.size<=b->bC F (lO ρ k u) ((k,some B) :: st.heap) b:=by
  intro aa b hb
  refine ⟨ak.ch b (ak.fC b hb),fun id bT ev cJ eJ ec gP=>?_⟩
  rw[ea] at cJ
  by_cases e:k=id
  ·rw[if_pos e] at cJ;injection cJ with cJ;subst cJ;rw[aa] at eJ;cases eJ
  ·rw[if_neg e] at cJ
   rw[mx _ _ (Ne.symm e)] at ec
   have:=(ak.owned cJ eJ ec gP).2
   omega
 obtain ⟨qw,J,av⟩:=ak.step (bm:=lO ρ k u) (cS:=(k,some B) :: st.heap) (next':=st.next) (aE:=aE) k none
  ⟨hw.os,hw.tape,hw.output,hw.size,fun k ag _=>hw.block k ag⟩ (fun k h=>by cases h) nF
  (fun id x h=>by
   by_cases e:id=k
   ·rw[e,hx] at h;injection h with h;subst h;exact⟨by omega,I⟩
   ·rw[mx _ _ e] at h;have:=ak.sup _ _ h;exact⟨by omega,this.2⟩)
  (fun id bT c9 cJ=>by
   rw[ea,if_neg (Ne.symm c9)] at cJ
   refine ⟨cJ,?_⟩
   have:=ak.dB _ _ cJ
   cases bT with
   | box t cs=>obtain ⟨b,us,I,_⟩:=this;exact⟨_,I,fun _ _ _ h=>by cases h⟩
   | row e s l=>obtain ⟨_,v,xs,I,_⟩:=this;exact⟨_,I,fun _ _ _ h=>by cases h⟩
   | gb l=>obtain ⟨v,I,_⟩:=this;exact⟨_,I,fun _ _ _ h=>by cases h⟩
   | map q es=>obtain ⟨b,_,_,I,_⟩:=this;exact⟨_,I,fun _ _ _ h=>by cases h⟩
   | obj o=>obtain ⟨b,I,_⟩:=this;exact⟨_,I,fun _ _ _ h=>by cases h⟩
   | mQ be ln=>obtain ⟨b,_,_,_,I,_⟩:=this;exact⟨_,I,fun _ _ _ h=>by cases h⟩
   | jG e s l=>obtain ⟨_,v,xs,I,_⟩:=this;exact⟨_,I,fun _ _ _ h=>by cases h⟩
   | jX q es=>obtain ⟨b,_,_,I,_⟩:=this;exact⟨_,I,fun _ _ _ h=>by cases h⟩
   | iter left dp=>obtain ⟨r,_,_,_,_,_,_,I,_⟩:=this;exact⟨_,I,fun _ _ _ h=>by cases h⟩)
  (fun bT ev b cJ aa ec hb=>by
   rw[ea,if_pos rfl] at cJ;injection cJ with cJ;subst cJ
   rw[hx] at ec;injection ec with ec;subst ec
   exact .inl (hu aa b hb))
  (fun bT cJ hS eV=>by
   rw[ea,if_pos rfl] at cJ;injection cJ with cJ;subst cJ
   exact aB _ hS nG eV)
 exact⟨lO ρ k u,qw,(ay.mono J av nF).put hd (hv _),nF,fun id hid=>mx _ _ hid⟩
theorem rK (w:World) (Kb:Obj):Below w.heap.size w (w.alloc Kb):=(Below.refl _ w).alloc (Nat.le_refl _) Kb
def AK:V->Bool
 | .lit _=>true
 | .ro _=>true
 | .own _=>true
 | .ptr ..=>true
 | .e9 _=>true
 | .gi ..=>true
 | _=>false
theorem Kc {ρ:Nat->Option Value} {S:Nat->Prop} {w:World} {v:V} {u:Value} (h:cC ρ S w v u) (aa:AK v=true) (e7:∀ id x,ρ id=some x->x.oneCell' = true):u.oneCell' = true:=by
 cases h with
 | pure h=>cases h with
  | lit _ h=>exact h
  | ro=>rfl
 | own h=>exact e7 _ _ h
 | ptr=>rfl
 | e9=>rfl
 | agg=>cases aa
 | b0=>cases aa
 | gi=>rfl
 | any=>cases aa
 | gl=>cases aa
def flat:V->Option (List V)
 | .agg cs=>bif cs.all AK then some cs else none
 | .b0 _=>none
 | .any=>none
 | .gl=>none
 | v=>some [v]
theorem AL {ρ:Nat->Option Value} {S:Nat->Prop} {w:World} {v:V} {u:Value} {cs:List V} (h:cC ρ S w v u) (hf:flat v=some cs) (e7:∀ id x,ρ id=some x->x.oneCell' = true) :
  u.cells.size=cs.length /\ ∀ j,j<cs.length->cC ρ S w (bx cs j) (u.cells.getD j undef)/\(u.cells.getD j undef).oneCell' = true:=by
 have single:∀ cX:V,AK cX = true->cC ρ S w cX u->u.cells.size=[cX].length /\ ∀ j,j<[cX].length->cC ρ S w (bx [cX] j) (u.cells.getD j undef)/\(u.cells.getD j undef).oneCell' = true:=by
  intro cX aa w7
  have I:=Kc w7 aa e7
  have hc:u.cells = #[u]:=by cases u <;> first|rfl|(simp[Value.oneCell'] at I)
  rw[hc]
  refine ⟨rfl,fun j ah=>?_⟩
  have:j=0:=by simpa using ah
  subst this
  exact⟨w7,I⟩
 cases v with
 | agg fk=>
  simp only[flat] at hf
  cases hb:fk.all AK with
  | false=>rw[hb] at hf;cases hf
  | true=>
   rw[hb] at hf
   simp only[cond_true,Option.some.injEq] at hf
   subst hf
   cases h with
   | pure h=>cases h
   | @agg _ us hn h=>
    refine ⟨hn,fun j ah=>⟨h j ah,Kc (h j ah) ?_ e7⟩⟩
    rw[List.all_eq_true] at hb
    refine hb _ ?_
    unfold bx
    rw[List.getD_eq_getElem?_getD,List.getElem?_eq_getElem ah]
    exact List.getElem_mem ah
 | b0=>cases hf
 | any=>cases hf
 | gl=>cases hf
 | lit=>simp only[flat,Option.some.injEq] at hf;subst hf;exact single _ rfl h
 | ro=>simp only[flat,Option.some.injEq] at hf;subst hf;exact single _ rfl h
 | own=>simp only[flat,Option.some.injEq] at hf;subst hf;exact single _ rfl h
 | ptr=>simp only[flat,Option.some.injEq] at hf;subst hf;exact single _ rfl h
 | e9=>simp only[flat,Option.some.injEq] at hf;subst hf;exact single _ rfl h
 | gi=>simp only[flat,Option.some.injEq] at hf;subst hf;exact single _ rfl h
theorem my {a:Act} {w aE:World} {u:Value} {K:Act->World->Prop} {Q:Exit->Act->World->Prop} (h:(execOp a.eval o).run P w = .ok (.value u) aE) (ag:K (a.put o.dst u) aE):o.wp P a w K Q:=by
 unfold Oper.wp;rw[h];exact ag
theorem E0 {a:Act} {w aE:World} {K:Act->World->Prop} {Q:Exit->Act->World->Prop} (h:(execOp a.eval o).run P w = .ok .skip aE) (ag:K (a.put o.dst undef) aE):o.wp P a w K Q:=by
 unfold Oper.wp;rw[h];exact ag
theorem xa (w:World) (us:Array Value) (T:TypeId):(w.alloc (.cells us T)).heap[w.heap.size]? = some (.cells us T (0,0)):=heap_alloc_new w _
theorem Kd {k:Nat} {F:Nat->Prop} {base:Nat->Prop} {ρ:Nat->Option Value} {w0 w:World} {a:Act} {d:Nat} {T:TypeId} {cs:List V} {us:Array Value}
  (ak:en F base ρ st.heap st.next w0 w) (ay:eR ρ (bC F ρ st.heap) w st.ad st.env a) (eH:ρ k=none) (ag:k<st.next) (hd:d<st.ad) (hn:us.size=cs.length)
  (hc:∀ j,j<cs.length->cC ρ (bC F ρ st.heap) w (bx cs j) (us.getD j undef)/\(us.getD j undef).oneCell' = true) :
  EZ k F base w0 ρ w (st.newAt k d (.ptr k 0 0 0) (.box T cs)) (a.put (some d) (.pointer (some ⟨w.heap.size,0,none⟩))) (w.alloc (.cells us T)):=by
 refine rJ ak ay eH ag (rK _ _) (fun _ b hb=>by simp only[dY,Option.some.injEq] at hb;omega) hd rfl (fun S hS _ ap=>?_) (fun S=>?_)
 ·refine ⟨w.heap.size,us,hx _ _ _,ak.fC _ (Nat.le_refl _),xa _ _ _,hn,fun j ah=>⟨(hc j ah).1.mono ap hS (fun id x h=>?_),(hc j ah).2⟩⟩
  rw[mx _ _ (fun e=>by rw[e,eH] at h;cases h)];exact h
 ·have:=@cC.ptr (lO ρ k (.pointer (some ⟨w.heap.size,0,none⟩))) S (w.alloc (.cells us T)) k 0 0 0 w.heap.size _ (hx _ _ _) rfl
  simpa using this
def gR (P:Program) (T:TypeId):Option (List V):=
 match P.info? T with
 | some i=>match i.zero with
  | some z=>bif z.cells.toList.all (fun u=>u.oneCell') then some (z.cells.toList.map .lit) else none
  | none=>none
 | none=>none
theorem E1 {ρ:Nat->Option Value} {S:Nat->Prop} {w:World} {us:Array Value} (h:us.toList.all (fun u=>u.oneCell')=true):us.size=(us.toList.map V.lit).length /\ ∀ j,j<(us.toList.map V.lit).length->cC ρ S w (bx (us.toList.map V.lit) j) (us.getD j undef)/\(us.getD j undef).oneCell' = true:=by
 refine ⟨by simp,fun j ah=>?_⟩
 simp only[List.length_map,Array.length_toList] at ah
 have aH:bx (us.toList.map V.lit) j = .lit (us.getD j undef):=by
  unfold bx
  rw[List.getD_eq_getElem?_getD,List.getElem?_map,List.getElem?_eq_getElem jD]
  simp[ah]
 have aa:(us.getD j undef).oneCell' = true:=by
  rw[List.all_eq_true] at h
  refine h _ ?_
  simp[ah]
 rw[aH]
 exact⟨.pure (.lit _ aa),aa⟩
theorem AM {T:TypeId} {cs:List V} (h:gR P T=some cs):∃ z:Value,cs=z.cells.toList.map .lit/\z.cells.toList.all (fun u=>u.oneCell')=true /\ ∀ w,(zeroValue T).run P w = .ok z w:=by
 unfold gR at h
 split at h
 ·rename_i i hi
  split at h
  ·rename_i z bh
   cases hb:z.cells.toList.all (fun u=>u.oneCell') with
   | false=>rw[hb] at h;cases h
   | true=>
    rw[hb] at h
    simp only[cond_true,Option.some.injEq] at h
    exact⟨z,h.symm,hb,fun w=>by simp[zeroValue,typeInfo,hi,bh,Sem.run_bind,Sem.run_pure,program,Sem.run]⟩
  ·cases h
 ·cases h
theorem Ke (T:TypeId) (v:Value) (w:World):(newVar T v).run P w = .ok ⟨w.heap.size,0,none⟩ (w.alloc (.cells v.cells T)):=by
 rfl
theorem Kf {k:Nat} {T:TypeId} {d:Nat} {cs:List V} (aa:o.op = .alloc T) (hd:o.dst=some d) (aL:Nat.blt d st.ad=true) (bh:gR P T=some cs) :
  ko P k o st (st.newAt k d (.ptr k 0 0 0) (.box T cs)):=fun F base w0 ρ a w ak ay eH ag=>by
 obtain ⟨z,rfl,lP,uP⟩:=AM bh
 obtain ⟨iA,iw⟩:=E1 (ρ:=ρ) (S:=bC F ρ st.heap) (w:=w) lP
 refine my (u:=.pointer (some ⟨w.heap.size,0,none⟩)) (aE:=w.alloc (.cells z.cells T)) ?_ ?_
 ·unfold execOp;rw[aa]
  simp[Instr.alloc,Sem.run_bind,uP,Ke]
 ·rw[hd]
  exact Kd ak ay eH ag (Nat.le_of_ble_eq_true aL) iA iw
theorem Kg {k:Nat} {T:TypeId} {x:Operand} {d:Nat} {v:V} {cs:List V} (aa:o.op = .box T x) (hd:o.dst=some d) (aL:Nat.blt d st.ad=true) (U:aI st.env x=some v) (hf:flat v=some cs) :
  ko P k o st (st.newAt k d (.ptr k 0 0 0) (.box T cs)):=fun F base w0 ρ a w ak ay eH ag=>by
 obtain ⟨iA,iw⟩:=AL (c0 ay U) hf (fun id x h=>(ak.sup id x h).2)
 refine my (u:=.pointer (some ⟨w.heap.size,0,none⟩)) (aE:=w.alloc (.cells (a.eval x).cells T)) ?_ ?_
 ·unfold execOp;rw[aa]
  simp[Instr.box,Ke]
 ·rw[hd]
  exact Kd ak ay eH ag (Nat.le_of_ble_eq_true aL) iA iw
theorem Su {T:TypeId} {d:Nat} {cs:List V} (aa:o.op = .alloc T) (hd:o.dst=some d) (aL:Nat.blt d st.ad=true) (hn0:Nat.ble n0 st.next=true) (bh:gR P T=some cs) :
  GStep P n0 o st (st.new d (.ptr st.next 0 0 0) (.box T cs)):=n5 (Nat.le_of_ble_eq_true hn0) (Kf (st:={ st with next:=st.next+1 }) aa hd aL bh)
theorem Sv {T:TypeId} {x:Operand} {d:Nat} {v:V} {cs:List V} (aa:o.op = .box T x) (hd:o.dst=some d) (aL:Nat.blt d st.ad=true) (hn0:Nat.ble n0 st.next=true) (U:aI st.env x=some v) (hf:flat v=some cs) :
  GStep P n0 o st (st.new d (.ptr st.next 0 0 0) (.box T cs)):=n5 (Nat.le_of_ble_eq_true hn0) (Kg (st:={ st with next:=st.next+1 }) aa hd aL U hf)
def setAt:Nat->List V->List V->List V
 | 0,[],cs=>cs
 | 0,v :: vs,_ :: cs=>v :: setAt 0 vs cs
 | n+1,vs,c :: cs=>c :: setAt n vs cs
 | _,_,[]=>[]
theorem rL:∀ (n:Nat) (vs cs:List V),(setAt n vs cs).length=cs.length
 | 0,[],cs=>by simp[setAt]
 | 0,v :: vs,c :: cs=>by simp[setAt,rL 0 vs cs]
 | n+1,vs,c :: cs=>by simp[setAt,rL n vs cs]
 | 0,v :: vs,[]=>rfl
 | n+1,vs,[]=>rfl
theorem xb:∀ (n:Nat) (vs cs:List V),n+vs.length<=cs.length -> ∀ j,bx (setAt n vs cs) j=if n<=j/\j<n+vs.length then bx vs (j - n) else bx cs j
 | 0,[],cs,_,j=>by simp[setAt]
 | 0,v :: vs,c :: cs,h,j=>by
  simp only[List.length_cons] at h
  cases j with
  | zero=>simp[setAt,bx]
  | succ j=>
   have:=xb 0 vs cs (by omega) j
   simp only[setAt]
   have e:bx (v :: setAt 0 vs cs) (j+1)=bx (setAt 0 vs cs) j:=by simp[bx]
   rw[e,this]
   simp only[Nat.zero_le,true_and,Nat.zero_add,List.length_cons,Nat.sub_zero]
   have aN:bx (v :: vs) (j+1)=bx vs j:=by simp[bx]
   have bS:bx (c :: cs) (j+1)=bx cs j:=by simp[bx]
   rw[aN,bS]
   by_cases hh:j<vs.length
   ·rw[if_pos hh,if_pos (by omega)]
   ·rw[if_neg hh,if_neg (by omega)]
 | n+1,vs,c :: cs,h,j=>by
  simp only[List.length_cons] at h
  cases j with
  | zero=>simp[setAt,bx]
  | succ j=>
   have:=xb n vs cs (by omega) j
   simp only[setAt]
   have e:bx (c :: setAt n vs cs) (j+1)=bx (setAt n vs cs) j:=by simp[bx]
   rw[e,this]
   have bS:bx (c :: cs) (j+1)=bx cs j:=by simp[bx]
   rw[bS]
   by_cases hh:n<=j/\j<n+vs.length
   ·rw[if_pos hh,if_pos (by omega)];congr 1;omega
   ·rw[if_neg hh,if_neg (by omega)]
 | 0,v :: vs,[],h,j=>by simp at h
 | n+1,vs,[],h,j=>by simp at h
theorem run_store {T:TypeId} {n g off:Nat} {t:TypeId} {dp:Array Value} {u:Value} {w:World} (aV:dt P T=some n) (hn:u.cells.size=n) (aj:w.heap[g]? = some (.cells dp t (0,0))) (aq:off+n<=dp.size) (I:∀ v ∈ u.cells.toList,v.oneCell' = true) :
  (Instr.storeAt T (.pointer (some ⟨g,off,none⟩)) u).run P w = .ok () (w.setRow g (dp.toList.take off++u.cells.toList++dp.toList.drop (off+n)).toArray):=by
 have jq:=run_storeCells_at P g off t u.cells.toList 0 dp w aj (by simp;omega) I
 simp only[Nat.add_zero,Array.length_toList,hn] at jq
 simp[Instr.storeAt,Instr.sureAddr,storeVar,qx aV,hn,Sem.run_bind,jq]
theorem Kh {us vs:Array Value} {off j:Nat} (h:off+vs.size<=us.size) (ah:j<us.size):((us.toList.take off++vs.toList++us.toList.drop (off+vs.size)).toArray).getD j undef=if off<=j/\j<off+vs.size then vs.getD (j - off) undef else us.getD j undef:=by
 simp only[Array.getD_eq_getD_getElem?,List.getElem?_toArray,List.append_assoc]
 by_cases I:j<off
 ·rw[List.getElem?_append_left (by simp;omega),if_neg (by omega),List.getElem?_take,if_pos I];simp
 ·rw[List.getElem?_append_right (by simp;omega)]
  have e:(us.toList.take off).length=off:=by simp;omega
  rw[e]
  by_cases J:j<off+vs.size
  ·rw[List.getElem?_append_left (by simp;omega),if_pos (by omega)];simp
  ·rw[List.getElem?_append_right (by simp;omega),if_neg (by omega),List.getElem?_drop]
   have aN:off+vs.size+(j - off - vs.toList.length)=j:=by simp;omega
   rw[aN];simp
theorem Ki {us vs:Array Value} {off:Nat} (h:off+vs.size<=us.size):((us.toList.take off++vs.toList++us.toList.drop (off+vs.size)).toArray).size=us.size:=by
 simp;omega
theorem Kj (w:World) (g:Nat) (cs:Array Value):w.grownBy (w.setRow g cs) (some g):=⟨rfl,rfl,rfl,by simp,fun k _ ag=>setRow_other w g k cs (fun e=>ag (by rw[e]))⟩
theorem en.oM {F:Nat->Prop} {base:Nat->Prop} {ρ:Nat->Option Value} {heap:List (Nat×Option aY)} {next:Nat} {w0 w:World} (h:en F base ρ heap next w0 w) {id:Nat} {B:aY} (aB:bd heap id=some B):∃ u,ρ id=some u:=by
 have:=h.dB _ _ aB
 cases B with
 | box t cs=>obtain ⟨b,us,I,_⟩:=this;exact⟨_,I⟩
 | row e s l=>obtain ⟨_,v,xs,I,_⟩:=this;exact⟨_,I⟩
 | gb l=>obtain ⟨v,I,_⟩:=this;exact⟨_,I⟩
 | map q es=>obtain ⟨b,_,_,I,_⟩:=this;exact⟨_,I⟩
 | obj o=>obtain ⟨b,I,_⟩:=this;exact⟨_,I⟩
 | mQ be ln=>obtain ⟨b,_,_,_,I,_⟩:=this;exact⟨_,I⟩
 | jG e s l=>obtain ⟨_,v,xs,I,_⟩:=this;exact⟨_,I⟩
 | jX q es=>obtain ⟨b,_,_,I,_⟩:=this;exact⟨_,I⟩
 | iter left dp=>obtain ⟨r,_,_,_,_,_,_,I,_⟩:=this;exact⟨_,I⟩
theorem Kk {T:TypeId} {x y:Operand} {id s j t:Nat} {cs vs:List V} {v:V} (aa:o.op = .store T x y) (hd:o.dst=none) (U:aI st.env x=some (.ptr id 0 s j)) (hh:bd st.heap id=some (.box t cs)) (ai:aI st.env y=some v)
  (hf:flat v=some vs) (aV:dt P T=some vs.length) (aq:Nat.ble (j+vs.length) cs.length=true) :
  GStep P n0 o st { st with heap:=(id,some (.box t (setAt j vs cs))) :: st.heap }:=fun F base w0 ρ a w ak ay=>by
 have aq:=Nat.le_of_ble_eq_true aq
 obtain ⟨r,b,I,J,av⟩:=pv (c0 ay U)
 obtain ⟨gO,us,aH,aN,bS,eK,iI⟩:=ak.dB _ _ hh
 rw[I] at aH;injection aH with aH;subst aH
 simp only[dY,Option.some.injEq] at J
 subst J
 obtain ⟨iA,iw⟩:=AL (c0 ay ai) hf (fun id x h=>(ak.sup id x h).2)
 have n7:∀ v ∈ (a.eval y).cells.toList,v.oneCell' = true:=fun v hv=>by
  obtain ⟨i,hi,rfl⟩:=List.getElem_of_mem hv
  simp only[Array.length_toList] at hi
  have:=(iw i (by omega)).2
  simpa[hi] using this
 have kE:=run_store (P:=P) (T:=T) (n:=vs.length) (g:=gO) (off:=j) aV iA bS (by omega) n7
 have cj:=(Array.getElem?_eq_some_iff.1 bS).1
 have px:¬ bC F ρ st.heap gO:=fun ap=>ap.2 id _ _ hh rfl I rfl
 refine E0 (aE:=w.setRow gO (us.toList.take j++(a.eval y).cells.toList++us.toList.drop (j+vs.length)).toArray) ?_ ?_
 ·unfold execOp;rw[aa]
  simp only[av,Nat.zero_mul,Nat.zero_add,Sem.run_bind,kE];rfl
 ·rw[hd]
  have dZ:=Ki (us:=us) (vs:=(a.eval y).cells) (off:=j) (by omega)
  have td:=fun i=>Kh (us:=us) (vs:=(a.eval y).cells) (off:=j) (j:=i) (by omega)
  rw[iA] at dZ td
  generalize (us.toList.take j++(a.eval y).cells.toList++us.toList.drop (j+vs.length)).toArray=N at dZ td ⊢
  obtain ⟨aT,a1,bz⟩:=ak.step (bm:=ρ) (cS:=(id,some (.box t (setAt j vs cs))) :: st.heap) (next':=st.next) id (some gO) (Kj w gO N)
   (fun k ag=>by injection ag with ag;subst ag;exact⟨aN,px⟩) (fun _ _ h=>h) (fun id u h=>ak.sup id u h)
   (fun i B c9 aB=>by
    rw[ea,if_neg (Ne.symm c9)] at aB
    refine ⟨aB,?_⟩
    obtain ⟨u,hu⟩:=ak.oM aB
    exact⟨u,hu,fun aa b hb e=>by injection e with e;subst e;exact c9 (ak.inj i id B _ u _ gO aB hh aa rfl hu I hb rfl)⟩)
   (fun B u b aB aa hu hb=>by
    rw[I] at hu;injection hu with hu;subst hu
    simp only[dY,Option.some.injEq] at hb;subst hb
    refine .inr ⟨px,fun i bT ev c9 cJ eJ ec dl=>?_⟩
    rw[ea,if_neg (Ne.symm c9)] at cJ
    exact c9 (ak.inj i id bT _ ev _ gO cJ hh eJ rfl ec I dl rfl))
   (fun B aB hS eV=>by
    rw[ea,if_pos rfl] at aB;injection aB with aB;subst aB
    refine ⟨gO,_,I,aN,setRow_heap w gO us _ t _ bS,by rw[rL];omega,fun i hi=>?_⟩
    rw[rL] at hi
    rw[xb _ _ _ aq,td i (by omega)]
    by_cases xc:j<=i/\i<j+vs.length
    ·rw[if_pos xc,if_pos xc]
     have:=iw (i - j) (by omega)
     exact⟨this.1.mono eV hS (fun _ _ h=>h),this.2⟩
    ·rw[if_neg xc,if_neg xc]
     exact⟨(iI i hi).1.mono eV hS (fun _ _ h=>h),(iI i hi).2⟩)
  exact⟨ρ,aT,ay.mono a1 bz (fun _ _ h=>h),fun _ _ h=>h,fun _ _=>rfl⟩
def n8:V->Bool
 | .lit _=>true
 | .ro _=>true
 | _=>false
theorem E2 {ρ:Nat->Option Value} {S:Nat->Prop} {w:World} {v:V} {u:Value} (h:cC ρ S w v u) (aw:n8 v=true):fP S w v u:=by
 cases h with
 | pure h=>exact h
 | _=>cases aw
theorem Kl {T:TypeId} {x y:Operand} {id i j e s:Nat} {l:List (List V)} {vs:List V} {v:V} (aa:o.op = .store T x y) (hd:o.dst=none) (U:aI st.env x=some (.ptr id i s j)) (hh:bd st.heap id=some (.row e s l)) (hi:i<l.length) (ai:aI st.env y=some v)
  (hf:flat v=some vs) (aw:vs.all n8=true) (aV:dt P T=some vs.length) (aq:Nat.ble (j+vs.length) s=true) :
  GStep P n0 o st { st with heap:=(id,some (.row e s (l.set i (setAt j vs (bH l i))))) :: st.heap }:=fun F base w0 ρ a w ak ay=>by
 have aq:=Nat.le_of_ble_eq_true aq
 obtain ⟨r,b,I,J,av⟩:=pv (c0 ay U)
 obtain ⟨Km,cX,xs,aH,⟨aN,xd⟩,bS,eK⟩:=ak.dB _ _ hh
 rw[I] at aH;injection aH with aH;subst aH
 obtain ⟨Kn,lp⟩:=aN
 rcases lp with⟨rfl,_⟩ | ⟨g,cap,dp,rfl,uQ,aj,qz,te,iW,tf⟩
 ·simp[dY] at J
 simp only[dY,Option.some.injEq] at J
 subst J
 obtain ⟨iA,iw⟩:=AL (c0 ay ai) hf (fun id x h=>(ak.sup id x h).2)
 have n7:∀ v ∈ (a.eval y).cells.toList,v.oneCell' = true:=fun v hv=>by
  obtain ⟨i,hi,rfl⟩:=List.getElem_of_mem hv
  simp only[Array.length_toList] at hi
  have:=(iw i (by omega)).2
  simpa[hi] using this
 have hlen:(bH l i).length=s:=bS i hi
 have hmul:(i+1) * s<=l.length * s:=Nat.mul_le_mul_right s hi
 have Xx:l.length * s<=cap * s:=Nat.mul_le_mul_right s qz
 have Xy:(i+1) * s=i * s+s:=Nat.succ_mul i s
 have kE:=run_store (P:=P) (T:=T) (n:=vs.length) (g:=g) (off:=i * s+j) aV iA aj (by omega) n7
 have cj:=(Array.getElem?_eq_some_iff.1 aj).1
 have px:¬ bC F ρ st.heap g:=fun ap=>ap.2 id _ _ hh rfl I rfl
 refine E0 (aE:=w.setRow g (dp.toList.take (i * s+j)++(a.eval y).cells.toList++dp.toList.drop (i * s+j+vs.length)).toArray) ?_ ?_
 ·unfold execOp;rw[aa]
  simp only[av,Sem.run_bind,kE];rfl
 ·rw[hd]
  have dZ:=Ki (us:=dp) (vs:=(a.eval y).cells) (off:=i * s+j) (by omega)
  have td:=fun k=>Kh (us:=dp) (vs:=(a.eval y).cells) (off:=i * s+j) (j:=k) (by omega)
  rw[iA] at dZ td
  generalize (dp.toList.take (i * s+j)++(a.eval y).cells.toList++dp.toList.drop (i * s+j+vs.length)).toArray=N at dZ td ⊢
  obtain ⟨aT,a1,bz⟩:=ak.step (bm:=ρ) (cS:=(id,some (.row e s (l.set i (setAt j vs (bH l i))))) :: st.heap) (next':=st.next) id (some g) (Kj w g N)
   (fun k ag=>by injection ag with ag;subst ag;exact⟨xd _ rfl,px⟩) (fun _ _ h=>h) (fun id u h=>ak.sup id u h)
   (fun i B c9 aB=>by
    rw[ea,if_neg (Ne.symm c9)] at aB
    refine ⟨aB,?_⟩
    obtain ⟨u,hu⟩:=ak.oM aB
    exact⟨u,hu,fun aa b hb e=>by injection e with e;subst e;exact c9 (ak.inj i id B _ u _ g aB hh aa rfl hu I hb rfl)⟩)
   (fun B u b aB aa hu hb=>by
    rw[I] at hu;injection hu with hu;subst hu
    simp only[dY,Option.some.injEq] at hb;subst hb
    refine .inr ⟨px,fun i bT ev c9 cJ eJ ec dl=>?_⟩
    rw[ea,if_neg (Ne.symm c9)] at cJ
    exact c9 (ak.inj i id bT _ ev _ g cJ hh eJ rfl ec I dl rfl))
   (fun B aB hS eV=>by
    rw[ea,if_pos rfl] at aB;injection aB with aB;subst aB
    have uR:(l.set i (setAt j vs (bH l i))).length=l.length:=by simp
    have Ko:∀ k,bH (l.set i (setAt j vs (bH l i))) k=if i=k then setAt j vs (bH l i) else bH l k:=fun k=>by
     unfold bH
     rw[List.getD_eq_getElem?_getD,List.getD_eq_getElem?_getD,List.getD_eq_getElem?_getD,List.getElem?_set]
     by_cases qA:i=k
     ·subst qA;simp[hi]
     ·simp[qA]
    refine ⟨Km,_,N.toList.take (l.length * s),I,⟨⟨by rw[uR];simp;omega,.inr ⟨g,cap,N,by rw[uR],uQ,setRow_heap w g dp N e _ aj,by rw[uR];exact qz,te,by omega,by rw[uR]⟩⟩,xd⟩,fun k ag=>?_,fun k c ag hc=>?_⟩
    ·rw[Ko];rw[uR] at ag
     by_cases qA:i=k
     ·rw[if_pos qA,rL];exact hlen
     ·rw[if_neg qA];exact bS k ag
    ·rw[uR] at ag
     have jr:(k+1) * s<=l.length * s:=Nat.mul_le_mul_right s ag
     have zl:(k+1) * s=k * s+s:=Nat.succ_mul k s
     have eT:(N.toList.take (l.length * s))[k * s+c]? = some (N.getD (k * s+c) undef):=by
      rw[List.getElem?_take,if_pos (by omega)]
      simp[show k * s+c<N.size by omega]
     refine ⟨_,eT,?_⟩
     rw[Ko,td (k * s+c) (by omega)]
     obtain ⟨Sw,E3,jl,Kp⟩:=eK k c ag hc
     have Kq:dp.getD (k * s+c) undef=Sw:=by
      rw[<- tf,List.getElem?_take,if_pos (by omega)] at E3
      simp only[Array.getElem?_toList] at E3
      rw[Array.getD_eq_getD_getElem?,E3];rfl
     by_cases qA:i=k
     ·subst qA
      rw[if_pos rfl,xb _ _ _ (by omega)]
      by_cases Kr:j<=c/\c<j+vs.length
      ·rw[if_pos Kr,if_pos (by omega),show i * s+c - (i * s+j)=c - j by omega]
       have hq:=iw (c - j) (by omega)
       refine ⟨(E2 hq.1 ?_).mono eV hS,hq.2⟩
       rw[List.all_eq_true] at aw
       refine aw _ ?_
       unfold bx
       rw[List.getD_eq_getElem?_getD,List.getElem?_eq_getElem (by omega)]
       exact List.getElem_mem _
      ·rw[if_neg Kr,if_neg (by omega),Kq]
       exact⟨jl.mono eV hS,Kp⟩
     ·rw[if_neg qA]
      have Sx:¬ (i * s+j<=k * s+c/\k * s+c<i * s+j+vs.length):=by
       rintro ⟨g1,g2⟩
       rcases Nat.lt_or_gt_of_ne qA with hh|hh
       ·have:(i+1) * s<=k * s:=Nat.mul_le_mul_right s hh
        omega
       ·have:(k+1) * s<=i * s:=Nat.mul_le_mul_right s hh
        omega
      rw[if_neg Sx,Kq]
      exact⟨jl.mono eV hS,Kp⟩)
  exact⟨ρ,aT,ay.mono a1 bz (fun _ _ h=>h),fun _ _ h=>h,fun _ _=>rfl⟩
end
section
variable {P:Program} {n0:Nat}
def lq (n0:Nat) (F:Nat->Prop) (base:Nat->Prop) (w0:World) (ρ:Nat->Option Value) (Q:Exit->ba->Prop) (e:Exit) (a:Act) (w:World):Prop:=
 ∃ bm st,Q e st/\en F base bm st.heap st.next w0 w/\eR bm (bC F bm st.heap) w st.ad st.env a /\ ∀ id,id<n0->bm id=ρ id
def cq (P:Program) (n0:Nat) (c:Code) (st:ba) (Q:Exit->ba->Prop):Prop:=
 ∀ F base w0 ρ a w,en F base ρ st.heap st.next w0 w->eR ρ (bC F ρ st.heap) w st.ad st.env a->c.wp P (lq n0 F base w0 ρ Q) a w
def AN (Q:ba->Prop) (e:Exit) (st:ba):Prop:=e = .normal/\Q st
def a8 (P:Program) (n0:Nat) (ops:Array Oper) (l:List Oper) (st:ba) (Q:ba->Prop):Prop:=
 ∀ F base w0 ρ a w,en F base ρ st.heap st.next w0 w->eR ρ (bC F ρ st.heap) w st.ad st.env a->wpList P ops (lq n0 F base w0 ρ (AN Q)) l a w
theorem lq.trans {F:Nat->Prop} {base:Nat->Prop} {w0:World} {ρ bm:Nat->Option Value} {Q:Exit->ba->Prop} {e:Exit} {a:Act} {w:World} (e7:∀ id,id<n0->bm id=ρ id) (h:lq n0 F base w0 bm Q e a w):lq n0 F base w0 ρ Q e a w:=
 let ⟨lQ,st,I,J,av,bl⟩:=h
 ⟨lQ,st,I,J,av,fun id hid=>(bl id hid).trans (e7 id hid)⟩
theorem lq.mono {F:Nat->Prop} {base:Nat->Prop} {w0:World} {ρ:Nat->Option Value} {Q oQ:Exit->ba->Prop} (lN:∀ e st,Q e st->oQ e st) {e:Exit} {a:Act} {w:World} (h:lq n0 F base w0 ρ Q e a w):lq n0 F base w0 ρ oQ e a w:=
 let ⟨lQ,st,I,J,av,bl⟩:=h
 ⟨lQ,st,lN _ _ I,J,av,bl⟩
theorem E4 {o:Oper} {a:Act} {w:World} {K rI:Act->World->Prop} {Q oQ:Exit->Act->World->Prop} (h:∀ a w,K a w->rI a w) (lN:∀ e a w,Q e a w->oQ e a w) (hh:o.wp P a w K Q):o.wp P a w rI oQ:=by
 unfold Oper.wp at *
 generalize (execOp a.eval o).run P w=r at *
 cases r with
 | ok n aE=>
  cases n <;> simp only[Oper.upon] at hh ⊢ <;>
   first
    | exact h _ _ hh
    | exact Calls.mono hh (fun e St he=>by cases e <;> first|exact h _ _ he|exact lN _ _ _ he|(obtain ⟨a,w,he⟩:=he;exact⟨a,w,lN _ _ _ he⟩))
    | exact Rows.mono hh (fun _ _ he=>h _ _ he)
 | halt x aE=>cases x <;> simp only[Oper.upon] at hh ⊢ <;> first|exact lN _ _ _ hh|exact hh
theorem xe {ops:Array Oper} {Q oQ:Exit->Act->World->Prop} (lN:∀ e a w,Q e a w->oQ e a w):∀ (l:List Oper) (a:Act) (w:World),wpList P ops Q l a w->wpList P ops oQ l a w
 | [],_,_,h=>lN _ _ _ h
 | o :: rest,a,w,h=>by
  unfold wpList at h ⊢
  split
  ·rename_i hw
   rw[if_pos hw] at h
   rcases h with h | ⟨I,a,w,J⟩
   ·exact .inl (E4 (xe lN rest) lN h)
   ·exact .inr ⟨I,a,w,lN _ _ _ J⟩
  ·rename_i hw
   rw[if_neg hw] at h
   exact xe lN rest _ _ h
def bW (env:List (Nat×V)) (ops:List Oper):Option (Nat×Bool)->Option Bool
 | none=>some true
 | some (j,b)=>match ops[j]? with
  | some xf=>match xf.dst with
   | some d=>match cG env d with
    | some (.lit (.bool gO))=>some (bif b then gO else !gO)
    | some .gl=>some false
    | _=>none
   | none=>none
  | none=>none
theorem Sy {ρ:Nat->Option Value} {S:Nat->Prop} {w:World} {u:Value} (h:cC ρ S w .gl u):u=undef:=by
 cases h with
 | pure h=>cases h
 | gl=>rfl
theorem py {ρ:Nat->Option Value} {S:Nat->Prop} {w:World} {ad:Nat} {env:List (Nat×V)} {a:Act} (ay:eR ρ S w ad env a) {ops:List Oper} {o:Oper} {b:Bool} (h:bW env ops o.guard=some b) :
  Region.wanted o (yielded ops.toArray a.tmps)=b:=by
 unfold Region.wanted
 cases aj:o.guard with
 | none=>rw[aj] at h;simp only[bW,Option.some.injEq] at h;exact h
 | some E5=>
  obtain ⟨j,want⟩:=E5
  rw[aj] at h
  simp only[bW] at h
  unfold yielded
  cases ah:ops[j]? with
  | none=>rw[ah] at h;cases h
  | some xf=>
   simp only[ah] at h
   simp only[List.getElem?_toArray,ah,Option.bind_some]
   cases hd:xf.dst with
   | none=>simp only[hd] at h;cases h
   | some d=>
    simp only[hd] at h
    simp only[Option.bind_some]
    cases he:cG env d with
    | none=>simp only[he] at h;cases h
    | some v=>
     simp only[he] at h
     have hv:=ay.slot d v he
     cases v with
     | lit u=>
      cases u with
      | bool gO=>
       have e:=ff hv
       have:a.tmps[d]? = some (.bool gO):=by
        rw[Array.getD_eq_getD_getElem?] at e
        cases av:a.tmps[d]? with
        | none=>rw[av] at e;simp[undef] at e
        | some x=>rw[av] at e;simp at e;rw[e]
       rw[this]
       simp only[Option.some.injEq] at h
       subst h
       cases want <;> cases gO <;> rfl
      | _=>cases h
     | gl=>
      simp only[Option.some.injEq] at h
      subst h
      have e:a.tmps.getD d undef=undef:=Sy hv
      rw[Array.getD_eq_getD_getElem?] at e
      cases av:a.tmps[d]? with
      | none=>rfl
      | some x=>rw[av] at e;simp at e;rw[e];rfl
     | _=>cases h
def lR (ad:Nat):Option Tmp->Bool
 | some d=>Nat.blt d ad
 | none=>true
theorem eR.xg {ρ:Nat->Option Value} {S:Nat->Prop} {w:World} {a:Act} {st:ba} (h:eR ρ S w st.ad st.env a) {d:Option Tmp} (hd:lR st.ad d=true) {v:V} {u:Value} (hv:cC ρ S w v u) :
  eR ρ S w (st.put d v).ad (st.put d v).env (a.put d u):=by
 cases d with
 | none=>exact h
 | some d=>exact h.put (Nat.le_of_ble_eq_true hd) hv
theorem AO (st:ba) (d:Option Tmp) (v:V):(st.put d v).heap=st.heap/\(st.put d v).next=st.next:=by cases d <;> exact⟨rfl,rfl⟩
theorem xh {ops:Array Oper} {st:ba} {Q:ba->Prop} (h:Q st):a8 P n0 ops [] st Q:=
 fun F base w0 ρ a w ak ay=>⟨ρ,st,⟨rfl,h⟩,ak,ay,fun _ _=>rfl⟩
theorem Ks {ops:List Oper} {o:Oper} {rest:List Oper} {st:ba} {Q:ba->Prop} (aj:bW st.env ops o.guard=some false) (hd:lR st.ad o.dst=true) (h:a8 P n0 ops.toArray rest (st.put o.dst .gl) Q):a8 P n0 ops.toArray (o :: rest) st Q:=
 fun F base w0 ρ a w ak ay=>wpList_step fun K lS=>by
  rw[if_neg (by rw[py ay aj];exact Bool.false_ne_true)]
  obtain ⟨aH,aN⟩:=AO st o.dst .gl
  exact lS _ _ (h F base w0 ρ _ w (by rw[aH,aN];exact ak) (by rw[aH];exact ay.xg hd .gl))
theorem Sz {ops:List Oper} {o:Oper} {rest:List Oper} {st:ba} {Q:ba->Prop} {v:V} (aj:bW st.env ops o.guard=some true) (hd:lR st.ad o.dst=true) (hq:bw P [] o st v) (h:a8 P n0 ops.toArray rest (st.put o.dst v) Q):a8 P n0 ops.toArray (o :: rest) st Q:=
 fun F base w0 ρ a w ak ay=>wpList_step fun K lS=>by
  rw[if_pos (py ay aj)]
  obtain ⟨u,I,J⟩:=hq F base w0 ρ a w ak.toHRel0 ay rfl
  obtain ⟨aH,aN⟩:=AO st o.dst v
  exact my (J w (Ext.refl _ _)) (lS _ _ (h F base w0 ρ _ w (by rw[aH,aN];exact ak) (by rw[aH];exact ay.xg hd I)))
theorem jI {ops:List Oper} {o:Oper} {rest:List Oper} {st bG:ba} {Q:ba->Prop} (aj:bW st.env ops o.guard=some true) (ap:GStep P n0 o st bG) (h:a8 P n0 ops.toArray rest bG Q):a8 P n0 ops.toArray (o :: rest) st Q:=
 fun F base w0 ρ a w ak ay=>wpList_step fun K lS=>by
  rw[if_pos (py ay aj)]
  refine E4 (fun gQ aE eO=>?_) (fun e a w h=>h.elim) (ap F base w0 ρ a w ak ay)
  obtain ⟨bm,I,J,av,bl⟩:=eO
  refine lS _ _ ?_
  have:=h F base w0 bm gQ aE I J
  exact xe (fun e a w aw=>lq.trans bl aw) _ _ _ this
def cu (P:Program) (n0:Nat) (st bG:ba):Prop:=∀ F base w0 ρ a w,en F base ρ st.heap st.next w0 w->eR ρ (bC F ρ st.heap) w st.ad st.env a ->
 ∃ bm,en F base bm bG.heap bG.next w0 w/\eR bm (bC F bm bG.heap) w bG.ad bG.env a /\ ∀ id,id<n0->bm id=ρ id
theorem y3 {ops:Array Oper} {l:List Oper} {st bG:ba} {Q:ba->Prop} (aq:cu P n0 st bG) (h:a8 P n0 ops l bG Q):a8 P n0 ops l st Q:=
 fun F base w0 ρ a w ak ay=>by
  obtain ⟨bm,I,J,av⟩:=aq F base w0 ρ a w ak ay
  exact xe (fun e a w aw=>lq.trans av aw) _ _ _ (h F base w0 bm a w I J)
theorem lZ {c:Code} {st bG:ba} {Q:Exit->ba->Prop} (aq:cu P n0 st bG) (h:cq P n0 c bG Q):cq P n0 c st Q:=
 fun F base w0 ρ a w ak ay=>by
  obtain ⟨bm,I,J,av⟩:=aq F base w0 ρ a w ak ay
  exact wp_mono (h F base w0 bm a w I J) (fun e a w aw=>lq.trans av aw)
theorem Kt {c:Code} {st:ba} {Q oQ:Exit->ba->Prop} (h:cq P n0 c st Q) (hq:∀ e st,Q e st->oQ e st):cq P n0 c st oQ:=
 fun F base w0 ρ a w ak ay=>wp_mono (h F base w0 ρ a w ak ay) (fun e a w aw=>lq.mono hq aw)
theorem lb {id:Nat} {l:List Oper} {st:ba} {Q:Exit->ba->Prop} (h:a8 P n0 l.toArray l st (Q .normal)):cq P n0 (.region id l.toArray false) st Q:=
 fun F base w0 ρ a w ak ay=>wp_region_lit (xe (fun e a w aw=>lq.mono (fun e st h=>by obtain ⟨rfl,h⟩:=h;exact h) aw) _ _ _ (h F base w0 ρ a w ak ay))
theorem AP {st:ba} {Q:Exit->ba->Prop} (h:Q .normal st):cq P n0 .skip st Q:=fun F base w0 ρ a w ak ay=>wp_skip ⟨ρ,st,h,ak,ay,fun _ _=>rfl⟩
theorem AQ {st:ba} {Q:Exit->ba->Prop} (h:Q .ret st):cq P n0 .ret st Q:=fun F base w0 ρ a w ak ay=>wp_ret ⟨ρ,st,h,ak,ay,fun _ _=>rfl⟩
theorem AR {id:Nat} {st:ba} {Q:Exit->ba->Prop} (h:Q (.exit id) st):cq P n0 (.exit id) st Q:=fun F base w0 ρ a w ak ay=>wp_exit ⟨ρ,st,h,ak,ay,fun _ _=>rfl⟩
def qB (next:ba->Prop) (Q:Exit->ba->Prop):Exit->ba->Prop
 | .normal,st=>next st
 | e,st=>Q e st
theorem iv {x y:Code} {st:ba} {Q:Exit->ba->Prop} (h:cq P n0 x st (qB (fun bG=>cq P n0 y bG Q) Q)):cq P n0 (.seq x y) st Q:=
 fun F base w0 ρ a w ak ay=>wp_seq (wp_mono (h F base w0 ρ a w ak ay) (fun e gQ aE aw=>by
  obtain ⟨bm,bG,I,J,av,bl⟩:=aw
  cases e with
  | normal=>exact wp_mono (I F base w0 bm gQ aE J av) (fun e a w aw=>lq.trans bl aw)
  | _=>exact⟨bm,bG,I,J,av,bl⟩))
def rM (id:Nat) (Q:Exit->ba->Prop):Exit->ba->Prop
 | .exit i,st=>bif Nat.beq i id then Q .normal st else Q (.exit i) st
 | e,st=>Q e st
theorem uB {id:Nat} {c:Code} {st:ba} {Q:Exit->ba->Prop} (h:cq P n0 c st (rM id Q)):cq P n0 (.block id c) st Q:=
 fun F base w0 ρ a w ak ay=>wp_block (wp_mono (h F base w0 ρ a w ak ay) (fun e gQ aE aw=>by
  obtain ⟨bm,bG,I,J,av,bl⟩:=aw
  cases e with
  | exit i=>
   simp only[Exit.inBlock]
   simp only[rM] at I
   split
   ·rename_i hi
    subst hi
    simp only[Nat.beq_refl,cond_true] at I
    exact⟨bm,bG,I,J,av,bl⟩
   ·rename_i hi
    have hb:Nat.beq i id=false:=by
     cases hb:Nat.beq i id
     ·rfl
     ·exact absurd (Nat.eq_of_beq_eq_true hb) hi
    rw[hb] at I
    exact⟨bm,bG,I,J,av,bl⟩
  | _=>exact⟨bm,bG,I,J,av,bl⟩))
theorem Ku {c:Operand} {x y:Code} {st:ba} {Q:Exit->ba->Prop} {b:Bool} (hc:aI st.env c=some (.lit (.bool b))) (ht:b=true->cq P n0 x st Q) (hf:b=false->cq P n0 y st Q):cq P n0 (.cond c x y) st Q:=
 fun F base w0 ρ a w ak ay=>by
  refine wp_cond_split (ff (c0 ay hc)) (fun h=>ht h F base w0 ρ a w ak ay) (fun h=>hf h F base w0 ρ a w ak ay)
theorem AS {c:Operand} {x y:Code} {st:ba} {Q:Exit->ba->Prop} (hc:aI st.env c=some (.lit (.bool true))) (h:cq P n0 x st Q):cq P n0 (.cond c x y) st Q:=Ku hc (fun _=>h) (fun h=>by cases h)
theorem AT {c:Operand} {x y:Code} {st:ba} {Q:Exit->ba->Prop} (hc:aI st.env c=some (.lit (.bool false))) (h:cq P n0 y st Q):cq P n0 (.cond c x y) st Q:=Ku hc (fun h=>by cases h) (fun _=>h)
theorem SA {X:Type} {c:Code} {st:ba} {Q:Exit->ba->Prop} (lT:X->ba) (qC:X->Nat) (dO:X) (af:cu P n0 st (lT dO))
  (round:∀ x,cq P n0 c (lT x) (qB (fun bG=>∃ oR,qC oR < qC x/\cu P n0 bG (lT oR)) Q)):cq P n0 (.loop c) st Q:=by
 refine lZ af ?_
 intro F base w0 ρ a w ak ay
 refine wp_loop_ghost (fun n a w=>∃ x bm,qC x=n/\en F base bm (lT x).heap (lT x).next w0 w/\eR bm (bC F bm (lT x).heap) w (lT x).ad (lT x).env a /\ ∀ id,id<n0->bm id=ρ id) (qC dO) ⟨dO,ρ,rfl,ak,ay,fun _ _=>rfl⟩ ?_
 rintro n a w ⟨x,bm,rfl,I,J,av⟩
 refine wp_mono (round x F base w0 bm a w I J) (fun e gQ aE aw=>?_)
 obtain ⟨lQ,bG,aT,a1,bz,cW⟩:=aw
 cases e with
 | normal=>
  obtain ⟨oR,p6,aq⟩:=aT
  obtain ⟨SB,g1,g2,g3⟩:=aq F base w0 lQ gQ aE a1 bz
  exact⟨qC oR,p6,oR,SB,rfl,g1,g2,fun id hid=>(g3 id hid).trans ((cW id hid).trans (av id hid))⟩
 | _=>exact⟨lQ,bG,aT,a1,bz,fun id hid=>(cW id hid).trans (av id hid)⟩
def AU (env:List (Nat×V)):List (Nat×V)->Prop
 | []=>True
 | (t,v) :: r=>cG env t=some v/\AU env r
theorem Kv {env:List (Nat×V)}:∀ {e:List (Nat×V)},AU env e -> ∀ t v,cG e t=some v->cG env t=some v
 | [],_,t,v,h=>by simp[cG] at h
 | (s,u) :: r,hc,t,v,h=>by
  simp only[cG] at h
  cases hb:Nat.beq s t with
  | true=>rw[hb] at h;simp only[cond_true,Option.some.injEq] at h;rw[<- h,<- Nat.eq_of_beq_eq_true hb];exact hc.1
  | false=>rw[hb] at h;exact Kv hc.2 t v h
theorem cu.refl (st:ba):cu P n0 st st:=fun F base w0 ρ a w ak ay=>⟨ρ,ak,ay,fun _ _=>rfl⟩
theorem cu.trans {s1 s2 oD:ba} (h:cu P n0 s1 s2) (k:cu P n0 s2 oD):cu P n0 s1 oD:=fun F base w0 ρ a w ak ay=>by
 obtain ⟨bm,I,J,av⟩:=h F base w0 ρ a w ak ay
 obtain ⟨lQ,bL,gT,iN⟩:=k F base w0 bm a w I J
 exact⟨lQ,bL,gT,fun id hid=>(iN id hid).trans (av id hid)⟩
def xi (heap:List (Nat×Option aY)):List (Nat×Option aY)->Prop
 | []=>True
 | (t,none) :: r=>xi heap r
 | (t,some v) :: r=>bd heap t=some v/\xi heap r
theorem uS {heap:List (Nat×Option aY)}:∀ {e:List (Nat×Option aY)},xi heap e -> ∀ t v,bd e t=some v->bd heap t=some v
 | [],_,t,v,h=>by simp[bd] at h
 | (s,none) :: r,hc,t,v,h=>by
  rw[ea] at h
  split at h
  ·cases h
  ·exact uS (e:=r) hc t v h
 | (s,some u) :: r,hc,t,v,h=>by
  rw[ea] at h
  split at h
  ·rename_i e;subst e;injection h with h;subst h;exact hc.1
  ·exact uS (e:=r) hc.2 t v h
theorem SC {st bG:ba} (J:bG.next=st.next) (av:bG.ad=st.ad) (hc:AU st.env bG.env) (hh:xi st.heap bG.heap):cu P n0 st bG:=
 fun F base w0 ρ a w ak ay=>by
  have ap:∀ b,bC F ρ st.heap b->bC F ρ bG.heap b:=fun b h=>⟨h.1,fun id B u aB aa hu=>h.2 id B u (uS hh id B aB) aa hu⟩
  refine ⟨ρ,⟨⟨ak.below,ak.fC,by rw[J];exact ak.sup,fun id dQ B bT u ev b aB cJ=>ak.inj id dQ B bT u ev b (uS hh _ _ aB) (uS hh _ _ cJ),fun id B aB=>?_⟩,ak.ch⟩,⟨by rw[av];exact ay.size,ay.defers,fun t v hv=>?_⟩,fun _ _=>rfl⟩
  ·exact(ak.dB id B (uS hh id B aB)).mono (dX.refl _ _) (fun b h _=>ap b h) (fun _ _ h=>h) (fun _ _ _ _ _ _=>rfl)
  ·exact(ay.slot t v (Kv hc t v hv)).mono (dX.refl _ _) (fun b h _=>ap b h) (fun _ _ h=>h)
def kF (n:Nat):V->Bool
 | .own id=>Nat.blt id n
 | .ptr id _ _ _=>Nat.blt id n
 | .agg cs=>k2 n cs
 | .b0 cs=>k2 n cs
 | .gi _ cs=>k2 n cs
 | _=>true
where k2 (n:Nat):List V->Bool
 | []=>true
 | c :: cs=>kF n c && k2 n cs
theorem tg {n:Nat}:∀ {cs:List V},kF.k2 n cs=true -> ∀ j,j<cs.length->kF n (bx cs j)=true
 | [],_,j,h=>by simp at h
 | c :: cs,h,0,_=>by simp only[kF.k2,Bool.and_eq_true] at h;exact h.1
 | c :: cs,h,j+1,ah=>by
  simp only[kF.k2,Bool.and_eq_true] at h
  have:=tg h.2 j jD
  simpa[bx] using this
def th (ρ:Nat->Option Value) (n:Nat):Nat->Option Value:=fun id=>bif Nat.blt id n then ρ id else none
theorem uT {ρ:Nat->Option Value} {n id:Nat} {u:Value} (h:th ρ n id=some u):ρ id=some u/\id<n:=by
 unfold th at h
 cases hb:Nat.blt id n with
 | false=>rw[hb] at h;cases h
 | true=>rw[hb] at h;exact⟨h,Nat.le_of_ble_eq_true hb⟩
theorem n9 {ρ:Nat->Option Value} {n id:Nat} (h:Nat.blt id n=true):th ρ n id=ρ id:=by unfold th;rw[h];rfl
theorem cC.cut {ρ:Nat->Option Value} {S:Nat->Prop} {w:World} {v:V} {u:Value} {n:Nat} (h:cC ρ S w v u):kF n v=true->cC (th ρ n) S w v u:=by
 induction h with
 | pure h=>exact fun _=>.pure h
 | own h=>exact fun hb=>.own (by rw[n9 hb];exact h)
 | ptr h hb=>exact fun hn=>.ptr (by rw[n9 hn];exact h) hb
 | e9 us hS hc hr=>exact fun _=>.e9 us hS hc hr
 | agg hn h cf=>exact fun hb=>.agg hn (fun j ah=>cf j ah (tg hb j ah))
 | b0 hn h cf=>exact fun hb=>.b0 hn (fun j ah=>cf j ah (tg hb j ah))
 | gi hn h cf=>exact fun hb=>.gi hn (fun j ah=>cf j ah (tg hb j ah))
 | any u=>exact fun _=>.any u
 | gl=>exact fun _=>.gl
def xj (n:Nat):List (Nat×V)->Bool
 | []=>true
 | (_,v) :: r=>kF n v && xj n r
theorem Kw {n:Nat}:∀ {e:List (Nat×V)},xj n e=true -> ∀ t v,cG e t=some v->kF n v=true
 | [],_,t,v,h=>by simp[cG] at h
 | (s,u) :: r,hc,t,v,h=>by
  simp only[xj,Bool.and_eq_true] at hc
  simp only[cG] at h
  cases hb:Nat.beq s t with
  | true=>rw[hb] at h;simp only[cond_true,Option.some.injEq] at h;rw[<- h];exact hc.1
  | false=>rw[hb] at h;exact Kw hc.2 t v h
def Kx (n:Nat):Option aY->Bool
 | some (.box _ cs)=>kF.k2 n cs
 | some (.jG _ _ l)=>l.all (kF.k2 n)
 | _=>true
def xk (n:Nat):List (Nat×Option aY)->Bool
 | []=>true
 | (id,B) :: r=>Nat.blt id n && Kx n B && xk n r
theorem Ky {n:Nat}:∀ {e:List (Nat×Option aY)},xk n e=true -> ∀ id B,bd e id=some B->Nat.blt id n=true/\Kx n (some B)=true
 | [],_,t,v,h=>by simp[bd] at h
 | (s,u) :: r,hc,t,v,h=>by
  simp only[xk,Bool.and_eq_true] at hc
  rw[ea] at h
  split at h
  ·rename_i e;subst e;subst h;exact hc.1
  ·exact Ky hc.2 t v h
theorem SD {st:ba} (n:Nat) (hn:Nat.ble n0 n=true) (hle:Nat.ble n st.next=true) (rN:xj n st.env=true) (rO:xk n st.heap=true):cu P n0 st { st with next:=n }:=
 fun F base w0 ρ a w ak ay=>by
  have hS:∀ b,bC F ρ st.heap b->bC F (th ρ n) st.heap b:=fun b h=>⟨h.1,fun id B u aB aa hu=>h.2 id B u aB aa (uT hu).1⟩
  refine ⟨th ρ n,⟨⟨ak.below,ak.fC,fun id u hu=>⟨(uT hu).2,(ak.sup id u (uT hu).1).2⟩,fun id dQ B bT u ev b aB cJ aa eJ hu ec=>ak.inj id dQ B bT u ev b aB cJ aa eJ (uT hu).1 (uT ec).1,fun id B aB=>?_⟩,ak.ch⟩,
   ⟨ay.size,ay.defers,fun t v hv=>?_⟩,fun id hid=>n9 (by have:=Nat.le_of_ble_eq_true hn;simp;omega)⟩
  ·have I:=ak.dB id B aB
   obtain ⟨g1,g2⟩:=Ky rO id B aB
   cases B with
   | box t cs=>
    obtain ⟨b,us,aT,a1,bz,cW,gA⟩:=I
    exact⟨b,us,by rw[n9 g1];exact aT,a1,bz,cW,fun j ah=>⟨((gA j ah).1.cut (tg g2 j ah)).mono (dX.refl _ _) (fun b h _=>hS b h) (fun _ _ h=>h),(gA j ah).2⟩⟩
   | row e s l=>
    obtain ⟨af,v,xs,aT,a1,bz,cW⟩:=I
    exact⟨af,v,xs,by rw[n9 g1];exact aT,a1,bz,fun i j hi ah=>by
     obtain ⟨u,hu,aw,aa⟩:=cW i j hi ah
     exact⟨u,hu,aw.mono (dX.refl _ _) (fun b h _=>hS b h),aa⟩⟩
   | gb l=>
    obtain ⟨v,aT,a1,bz⟩:=I
    exact⟨v,by rw[n9 g1];exact aT,a1.mono (dX.refl _ _) (fun b h _=>hS b h),bz⟩
   | map q es=>
    obtain ⟨b,cn,clock,aT,a1⟩:=I
    exact⟨b,cn,clock,by rw[n9 g1];exact aT,a1⟩
   | obj o=>
    obtain ⟨b,aT,a1⟩:=I
    exact⟨b,by rw[n9 g1];exact aT,a1⟩
   | mQ be ln=>
    obtain ⟨b,cap,dp,iY,aT,a1⟩:=I
    exact⟨b,cap,dp,iY,by rw[n9 g1];exact aT,a1⟩
   | jG e s l=>
    obtain ⟨af,v,xs,aT,a1,bz,cW⟩:=I
    exact⟨af,v,xs,by rw[n9 g1];exact aT,a1,bz,fun i j hi ah=>by
     obtain ⟨u,hu,aw,aa⟩:=cW i j hi ah
     have hm:bH l i ∈ l:=by unfold bH;rw[List.getD_eq_getElem?_getD,List.getElem?_eq_getElem hi];exact List.getElem_mem hi
     exact⟨u,hu,(aw.cut (tg (List.all_eq_true.1 g2 _ hm) j (by rw[bz i hi];exact ah))).mono (dX.refl _ _) (fun b h _=>hS b h) (fun _ _ h=>h),aa⟩⟩
   | jX q es=>
    obtain ⟨b,cn,clock,aT,a1,bz⟩:=I
    exact⟨b,cn,clock,by rw[n9 g1];exact aT,hS b a1,bz⟩
   | iter left dp=>
    obtain ⟨r,b,cn,clock,since,seen,aS,aT,a1,bz,cW,gA⟩:=I
    exact⟨r,b,cn,clock,since,seen,aS,by rw[n9 g1];exact aT,a1,bz,hS b cW,gA⟩
  ·exact((ay.slot t v hv).cut (Kw rN t v hv)).mono (dX.refl _ _) (fun b h _=>hS b h) (fun _ _ h=>h)
def rP (P:Program) (f:FuncId):Bool:=
 match P.funcs[f]? with
 | some fn => fn.body.isSome && !(fn.name == "runtime.NumGoroutine")
 | none=>false
def Fn (P:Program) (f:FuncId) (args:List V) (r:V):Prop:=
 rP P f=true /\ ∀ (w:World) (S:Nat->Prop) (gv:Array Value),gv.size=args.length->(∀ b,w.heap.size<=b->S b)->(∀ j,j<args.length->cC (fun _=>none) S w (bx args j) (gv.getD j undef)) ->
  Calls P f gv w fun e aE=>∃ v,e = .returned v/\Below w.heap.size w aE /\ cC (fun _=>none) S aE r v
theorem AV {o:Oper} {f:FuncId} {xs:Array Operand} {ts:Array TypeId} (aa:o.op = .call { callee:=.value (.func f),args:=xs,argTypes:=ts }) (hf:rP P f=true) (a:Act) (w:World) :
  (execOp a.eval o).run P w = .ok (.enter f (xs.map a.eval)) w:=by
 unfold rP at hf
 cases iD:P.funcs[f]? with
 | none=>rw[iD] at hf;cases hf
 | some fn=>
  rw[iD] at hf
  simp only[Bool.and_eq_true,Bool.not_eq_true'] at hf
  obtain ⟨I,J⟩:=hf
  obtain ⟨c,hc⟩:=Option.isSome_iff_exists.1 I
  unfold execOp;rw[aa]
  have E6 : fn.name ≠ "runtime.NumGoroutine" := fun e => by rw [e] at J; simp at J
  simp[resolve,Act.eval,Deferred.ofValue,invoke,callFunc,Sem.run_bind,Sem.run_pure,program,Sem.run,iD,hc,E6]
end
section
variable {P:Program} {n0:Nat}
def gE (heap:List (Nat×Option aY)):V->Option V
 | .lit u=>some (.lit u)
 | .ro l=>some (.ro l)
 | .own id=>match bd heap id with
  | some (.row _ _ l)=>some (.ro l)
  | some (.gb l)=>some (.ro l)
  | _=>none
 | .e9 cs=>some (.e9 cs)
 | .agg cs=>match mz cs with
  | some fk=>some (.agg fk)
  | none=>none
 | .b0 cs=>match mz cs with
  | some fk=>some (.b0 fk)
  | none=>none
 | _=>none
where mz:List V->Option (List V)
 | []=>some []
 | c :: cs=>match gE heap c,mz cs with
  | some hV,some fk=>some (hV :: fk)
  | _,_=>none
theorem xl {heap:List (Nat×Option aY)}:∀ {cs fk:List V},gE.mz heap cs=some fk -> fk.length=cs.length /\ ∀ j,j<cs.length->gE heap (bx cs j)=some (bx fk j)
 | [],fk,h=>by
  simp only[gE.mz,Option.some.injEq] at h
  subst h
  exact⟨rfl,fun j ah=>by simp at ah⟩
 | c :: cs,fk,h=>by
  simp only[gE.mz] at h
  split at h
  ·rename_i hV Kz I J
   injection h with h;subst h
   obtain ⟨aH,aN⟩:=xl J
   refine ⟨by simp[aH],fun j ah=>?_⟩
   cases j with
   | zero=>simpa[bx] using I
   | succ j=>
    have:=aN j jD
    simpa[bx] using this
  ·cases h
theorem E7 {S hN:Nat->Prop} {w:World} {base:Nat} {e s:Nat} {v:Value} {xs:List Value} {l:List (List V)} (af:0<s) (J:w.ownsRow base e s v l.length xs) (av:∀ i,i<l.length->(bH l i).length=s)
  (bl:∀ i j,i<l.length->j<s -> ∃ u,xs[i * s+j]? = some u/\fP S w (bx (bH l i) j) u/\u.oneCell' = true) (hS:∀ b,S b->b<w.heap.size->hN b) (hb:∀ b,dY v=some b->hN b):fP hN w (.ro l) v:=by
 have hrel:∀ i j,i<l.length->j<s->fP hN w (bx (bH l i) j) (xs.getD (i * s+j) undef):=fun i j hi ah=>by
  obtain ⟨u,hu,aw,_⟩:=bl i j hi ah
  have:xs.getD (i * s+j) undef=u:=by rw[List.getD_eq_getElem?_getD,hu];rfl
  rw[this];exact aw.mono (dX.refl _ _) hS
 rcases J.2 with⟨rfl,aq⟩ | ⟨g,cap,dp,rfl,uQ,aj,qz,te,iW,tf⟩
 ·have hn:l.length=0:=aq
  have:fP hN w (.ro l) (.slice none l.length 0):=.ro l none 0 s 0 0 (fun i j=>xs.getD (i * s+j) undef) (by omega) pf af (fun h=>by omega) av (fun i j hi=>by omega) hrel
  rwa [hn] at this
 ·refine .ro l _ cap s g 0 (fun i j=>xs.getD (i * s+j) undef) qz te af (fun _=>⟨rfl,hb g rfl⟩) av (fun i j hi ah=>?_) hrel
  obtain ⟨u,hu,aw,_⟩:=bl i j hi ah
  have aH:xs.getD (i * s+j) undef=u:=by rw[List.getD_eq_getElem?_getD,hu];rfl
  rw[aH,Nat.zero_add]
  exact Ka J rfl hu
theorem E8 {F:Nat->Prop} {base:Nat->Prop} {ρ:Nat->Option Value} {heap:List (Nat×Option aY)} {next:Nat} {w0 w:World} (ak:en F base ρ heap next w0 w) {hN:Nat->Prop} (hS:∀ b,bC F ρ heap b->b<w.heap.size->hN b)
  (aa:∀ b,base b->b<w.heap.size->hN b) {v:V} {u:Value} (h:cC ρ (bC F ρ heap) w v u):∀ {cX},gE heap v=some cX -> cC (fun _=>none) hN w cX u:=by
 induction h with
 | pure h=>
  intro cX hv
  have aw:=h.mono (dX.refl _ _) hS
  cases h with
  | lit=>simp only[gE,Option.some.injEq] at hv;subst hv;exact .pure aw
  | ro=>simp only[gE,Option.some.injEq] at hv;subst hv;exact .pure aw
 | @own id u h=>
  intro cX hv
  simp only[gE] at hv
  split at hv
  ·rename_i e s l hh
   injection hv with hv;subst hv
   obtain ⟨af,v,xs,I,⟨J,_⟩,av,bl⟩:=ak.dB _ _ hh
   rw[h] at I;injection I with I;subst I
   exact .pure (E7 af J av bl hS (fun b hb=>by have:=ak.owned hh rfl h hb;exact aa b this.1 this.2))
  ·rename_i l hh
   injection hv with hv;subst hv
   obtain ⟨v,I,J,_⟩:=ak.dB _ _ hh
   rw[h] at I;injection I with I;subst I
   exact .pure (J.mono (dX.refl _ _) hS)
  ·cases hv
 | ptr=>intro cX hv;simp[gE] at hv
 | e9 us pt hc hr=>
  intro cX hv
  simp only[gE,Option.some.injEq] at hv;subst hv
  exact .e9 us (fun h=>hS _ (pt h) (pq (hc 0 h))) hc (fun j ah=>(hr j ah).mono (dX.refl _ _) hS)
 | agg hn h cf=>
  intro cX hv
  simp only[gE] at hv
  split at hv
  ·rename_i fk iW
   injection hv with hv;subst hv
   obtain ⟨aH,aN⟩:=xl iW
   exact .agg (by rw[aH];exact hn) (fun j ah=>cf j (by omega) (aN j (by omega)))
  ·cases hv
 | b0 hn h cf=>
  intro cX hv
  simp only[gE] at hv
  split at hv
  ·rename_i fk iW
   injection hv with hv;subst hv
   obtain ⟨aH,aN⟩:=xl iW
   exact .b0 (by rw[aH];exact hn) (fun j ah=>cf j (by omega) (aN j (by omega)))
  ·cases hv
 | gi=>intro cX hv;simp[gE] at hv
 | any=>intro cX hv;simp[gE] at hv
 | gl=>intro cX hv;simp[gE] at hv
def gw (env:List (Nat×V)):List Operand->Option (List V)
 | []=>some []
 | x :: xs=>match aI env x,gw env xs with
  | some v,some vs=>some (v :: vs)
  | _,_=>none
theorem uU {ρ:Nat->Option Value} {S:Nat->Prop} {w:World} {ad:Nat} {env:List (Nat×V)} {a:Act} (ay:eR ρ S w ad env a):∀ {xs:List Operand} {vs:List V},gw env xs=some vs->vs.length=xs.length /\ ∀ j,j<vs.length->cC ρ S w (bx vs j) ((xs.map a.eval).getD j undef)
 | [],vs,h=>by
  simp only[gw,Option.some.injEq] at h
  subst h
  exact⟨rfl,fun j ah=>by simp at ah⟩
 | x :: xs,vs,h=>by
  simp only[gw] at h
  split at h
  ·rename_i v cc I J
   injection h with h;subst h
   obtain ⟨aH,aN⟩:=uU ay J
   refine ⟨by simp[aH],fun j ah=>?_⟩
   cases j with
   | zero=>simpa[bx] using c0 ay I
   | succ j=>
    have:=aN j jD
    simpa[bx] using this
  ·cases h
def pz:V->Bool
 | .lit _=>true
 | .agg cs=>uV cs
 | .b0 cs=>uV cs
 | _=>false
where uV:List V->Bool
 | []=>true
 | c :: cs=>pz c && uV cs
theorem E9:∀ {cs:List V},pz.uV cs=true -> ∀ j,j<cs.length->pz (bx cs j)=true
 | [],_,j,h=>by simp at h
 | c :: cs,h,0,_=>by simp only[pz.uV,Bool.and_eq_true] at h;exact h.1
 | c :: cs,h,j+1,ah=>by
  simp only[pz.uV,Bool.and_eq_true] at h
  have:=E9 h.2 j jD
  simpa[bx] using this
theorem SE {ρ bm:Nat->Option Value} {S hN:Nat->Prop} {w aE:World} {v:V} {u:Value} (h:cC ρ S w v u):pz v=true->cC bm hN aE v u:=by
 induction h with
 | pure h=>
  cases h with
  | lit _ h=>exact fun _=>.pure (.lit _ h)
  | ro=>intro h;cases h
 | agg hn h cf=>exact fun hb=>.agg hn (fun j ah=>cf j ah (E9 hb j ah))
 | b0 hn h cf=>exact fun hb=>.b0 hn (fun j ah=>cf j ah (E9 hb j ah))
 | _=>intro h;cases h
theorem KA {o:Oper} {st:ba} {f:FuncId} {xs:Array Operand} {ts:Array TypeId} {vs cc:List V} {r:V} {S:World->(Nat->Option Value)->(Nat->Prop)->Nat->Prop} (aa:o.op = .call { callee:=.value (.func f),args:=xs,argTypes:=ts }) (aL:lR st.ad o.dst=true) (hf:Fn P f cc r)
  (U:gw st.env xs.toList=some vs) (hlen:cc.length=vs.length)
  (hS:∀ F base w0 ρ w,en F base ρ st.heap st.next w0 w->(∀ b,w.heap.size<=b->S w ρ F b)/\(∀ j u,j<vs.length->cC ρ (bC F ρ st.heap) w (bx vs j) u->cC (fun _=>none) (S w ρ F) w (bx cc j) u) /\ ∀ aE v,Below w.heap.size w aE -> cC (fun _=>none) (S w ρ F) aE r v->cC ρ (bC F ρ st.heap) aE r v) :
  GStep P n0 o st (st.put o.dst r):=fun F base w0 ρ a w ak ay=>by
 obtain ⟨g1,g2,g3⟩:=hS F base w0 ρ w ak
 obtain ⟨aH,aN⟩:=uU ay U
 unfold Oper.wp
 rw[AV aa hf.1 a w,Oper.upon_enter]
 have dZ:(xs.map a.eval).size=cc.length:=by
  rw[hlen,aH];simp
 refine (hf.2 w (S w ρ F) (xs.map a.eval) dZ g1 (fun j ah=>?_)).mono ?_
 ·rw[hlen] at ah
  have h:=aN j ah
  have bS:(xs.toList.map a.eval).getD j undef=(xs.map a.eval).getD j undef:=by
   rw[List.getD_eq_getElem?_getD,Array.getD_eq_getD_getElem?,<- Array.toList_map]
   simp
  rw[bS] at h
  exact g2 j _ ah h
 ·rintro e aE ⟨v,rfl,hb,hv⟩
  obtain ⟨dD,c7⟩:=AO st o.dst r
  have ap:dX (bC F ρ st.heap) w aE:=fun b _ cj=>hb.block b cj
  refine ⟨ρ,by rw[dD,c7];exact ak.grow hb,by rw[dD];exact(ay.mono ap (fun b h _=>h) (fun _ _ h=>h)).xg aL (g3 aE v hb hv),fun _ _ h=>h,fun _ _=>rfl⟩
theorem Fa {F:Nat->Prop} {base:Nat->Prop} {ρ:Nat->Option Value} {heap:List (Nat×Option aY)} {next:Nat} {w0 w:World} (ak:en F base ρ heap next w0 w) {b:Nat} (hb:w.heap.size<=b):bC F ρ heap b:=
 ⟨ak.ch b (ak.fC b hb),fun id B u aB aa hu gP=>by have:=(ak.owned aB aa hu gP).2;omega⟩
theorem KB {o:Oper} {st:ba} {f:FuncId} {xs:Array Operand} {ts:Array TypeId} {vs:List V} {r:V} (aa:o.op = .call { callee:=.value (.func f),args:=xs,argTypes:=ts }) (aL:lR st.ad o.dst=true)
  (U:gw st.env xs.toList=some vs) (hb:kF.k2 0 vs=true) (hf:Fn P f vs r):GStep P n0 o st (st.put o.dst r):=
 KA (S:=fun w ρ F=>bC F ρ st.heap) aa aL hf U rfl fun F base w0 ρ w ak=>⟨fun b hb=>Fa ak hb,fun j u ah h=>(h.cut (tg hb j ah)).mono (dX.refl _ _) (fun b h _=>h) (fun id u h=>by have:=(uT h).2;omega),
  fun aE v dl h=>h.mono (dX.refl _ _) (fun b h _=>h) (fun id u h=>by cases h)⟩
theorem KC {o:Oper} {st:ba} {f:FuncId} {xs:Array Operand} {ts:Array TypeId} {vs cc:List V} {r:V} (aa:o.op = .call { callee:=.value (.func f),args:=xs,argTypes:=ts }) (aL:lR st.ad o.dst=true)
  (U:gw st.env xs.toList=some vs) (ap:gE.mz st.heap vs=some cc) (hf:Fn P f cc r) (hr:pz r=true):GStep P n0 o st (st.put o.dst r):=by
 obtain ⟨aH,aN⟩:=xl ap
 exact KA (S:=fun w ρ F _=>True) aa aL hf U aH fun F base w0 ρ w ak=>⟨fun b hb=>trivial,fun j u ah h=>E8 ak (fun _ _ _=>trivial) (fun _ _ _=>trivial) h (aN j ah),fun aE v dl h=>SE h hr⟩
mutual
inductive cZ:V->V->Prop
 | refl (v:V):cZ v v
 | nil:cZ (.lit (.slice none 0 0)) (.ro [])
 | agg {cs ds:List V} (h:dI cs ds):cZ (.agg cs) (.agg ds)
 | b0 {cs ds:List V} (h:dI cs ds):cZ (.b0 cs) (.b0 ds)
inductive dI:List V->List V->Prop
 | nil:dI [] []
 | cons {c d:V} {cs ds:List V} (h:cZ c d) (ap:dI cs ds):dI (c :: cs) (d :: ds)
end
theorem wG (c:V) (cs:List V) (j:Nat):bx (c :: cs) (j+1)=bx cs j:=by simp[bx]
mutual
theorem cZ.rel {ρ:Nat->Option Value} {S:Nat->Prop} {w:World}:∀ {v cX:V},cZ v cX -> ∀ {u:Value},cC ρ S w v u->cC ρ S w cX u
 | _,_,.refl v,u,h=>h
 | _,_,.nil,u,h=>by
  rw[ff h]
  exact .pure (.ro [] none 0 1 0 0 (fun _ _=>undef) (by simp) pf (by omega) (fun h=>by simp at h) (fun i hi=>by simp at hi) (fun i j hi=>by simp at hi) (fun i j hi=>by simp at hi))
 | _,_,.agg ap,u,h=>by
  have aq:=dI.rel (ρ:=ρ) (S:=S) (w:=w) ap
  cases h with
  | pure h=>cases h
  | agg hn h=>exact .agg (by rw[hn,aq.1]) (fun j ah=>aq.2 j (by rw[aq.1];exact ah) (h j (by rw[aq.1];exact ah)))
 | _,_,.b0 ap,u,h=>by
  have aq:=dI.rel (ρ:=ρ) (S:=S) (w:=w) ap
  cases h with
  | pure h=>cases h
  | b0 hn h=>exact .b0 (by rw[hn,aq.1]) (fun j ah=>aq.2 j (by rw[aq.1];exact ah) (h j (by rw[aq.1];exact ah)))
theorem dI.rel {ρ:Nat->Option Value} {S:Nat->Prop} {w:World}:∀ {cs ds:List V},dI cs ds->cs.length=ds.length /\ ∀ j,j<cs.length -> ∀ {u:Value},cC ρ S w (bx cs j) u->cC ρ S w (bx ds j) u
 | _,_,.nil=>⟨rfl,fun j ah=>by simp at ah⟩
 | _,_,.cons h ap=>by
  have aq:=dI.rel (ρ:=ρ) (S:=S) (w:=w) ap
  refine ⟨by simp[aq.1],fun j ah u hu=>?_⟩
  cases j with
  | zero=>exact cZ.rel h hu
  | succ j=>
   rw[wG] at hu ⊢
   exact aq.2 j jD hu
end
theorem KD {f:FuncId} {vs cc:List V} {r:V} (hf:Fn P f cc r) (hw:dI vs cc):Fn P f vs r:=
 ⟨hf.1,fun w S gv dZ hS mj=>by
  have aq:=fun j=>(dI.rel (ρ:=fun _=>none) (S:=S) (w:=w) hw).2 j
  have he:=(dI.rel (ρ:=fun _=>none) (S:=S) (w:=w) hw).1
  exact hf.2 w S gv (by rw[dZ,he]) hS (fun j ah=>aq j (by rw[he];exact ah) (mj j (by rw[he];exact ah)))⟩
def rQ:Nat->List V->List (Nat×V)
 | _,[]=>[]
 | k,v :: vs=>(k,v) :: rQ (k+1) vs
theorem Fb:∀ (k:Nat) (vs:List V) (t:Nat) (v:V),cG (rQ k vs) t=some v->k<=t/\t - k<vs.length/\v=bx vs (t - k)
 | k,[],t,v,h=>by simp[rQ,cG] at h
 | k,x :: vs,t,v,h=>by
  simp only[rQ,cG] at h
  cases hb:Nat.beq k t with
  | true=>
   rw[hb] at h
   have:=Nat.eq_of_beq_eq_true hb
   subst this
   simp only[cond_true,Option.some.injEq] at h
   subst h
   exact⟨Nat.le_refl _,by simp,by simp[bx]⟩
  | false=>
   rw[hb] at h
   have c9:k≠t:=fun e=>by rw[e] at hb;simp at hb
   obtain ⟨I,J,av⟩:=Fb (k+1) vs t v h
   refine ⟨by omega,by simp;omega,?_⟩
   rw[av]
   have:t - k=(t - (k+1))+1:=by omega
   rw[this];simp[bx]
def Fc (P:Program) (st:ba) (T:TypeId):V->Option V
 | .ptr id 0 _ j=>match bd st.heap id with
  | some (.box _ cs)=>match jH P T with
   | some true=>match dt P T with
    | some n=>bif Nat.ble n (cs.drop j).length then some (.agg ((cs.drop j).take n)) else none
    | none=>none
   | some false=>(cs.drop j)[0]?
   | none=>none
  | _=>none
 | _=>none
def rR (P:Program) (st:ba):List ResultVar->Option (List V)
 | []=>some []
 | .tmp t :: k3=>match cG st.env t,rR P st k3 with
  | some v,some vs=>some (v :: vs)
  | _,_=>none
 | .cell a T :: k3=>match cG st.env a with
  | some p=>match Fc P st T p,rR P st k3 with
   | some v,some vs=>some (v :: vs)
   | _,_=>none
  | none=>none
def rS (P:Program) (st:ba) (k3:List ResultVar):Option V:=
 match rR P st k3 with
 | some [v]=>some v
 | some vs=>some (.b0 vs)
 | none=>none
theorem SF {F:Nat->Prop} {base:Nat->Prop} {ρ:Nat->Option Value} {w0 w:World} {st:ba} {T:TypeId} {p v:V} {u:Value} (ak:en F base ρ st.heap st.next w0 w) (aw:cC ρ (bC F ρ st.heap) w p u) (h:Fc P st T p=some v) :
  ∃ r,(loadVar T ⟨(match u with | .pointer (some a)=>a.block|_=>0),(match u with | .pointer (some a)=>a.off|_=>0),none⟩).run P w = .ok r w/\cC ρ (bC F ρ st.heap) w v r /\ ∃ b off,u = .pointer (some ⟨b,off,none⟩):=by
 unfold Fc at h
 split at h
 ·rename_i id s j
  split at h
  ·rename_i t cs hh
   obtain ⟨b,off,us,I,J,av⟩:=J9 (G:=[]) (st:=st) (s:=s) (j:=j) hh rfl F base w0 ρ w u ak.toHRel0 rfl aw
   subst I
   split at h
   ·rename_i aV
    split at h
    ·rename_i n hn
     cases hb:Nat.ble n (cs.drop j).length with
     | false=>rw[hb] at h;cases h
     | true=>
      rw[hb] at h
      simp only[cond_true,Option.some.injEq] at h
      subst h
      have hle:=Nat.le_of_ble_eq_true hb
      have:=J6 (P:=P) (T:=T) (n:=n) aV hn (b:=b) (off:=off) (us:=(Array.range n).map us) (w:=w) (by simp) (fun k ag=>by
       rw[av w (Ext.refl _ _) k (by omega)];simp[ag])
      simp only[Instr.loadAt,Instr.sureAddr,Sem.run_bind,Sem.run_pure,Result.andThen_ok] at this
      refine ⟨_,this,.agg (by simp;simp at hle;omega) (fun k ag=>?_),b,off,rfl⟩
      simp only[List.length_take] at ag
      have aH:bx ((cs.drop j).take n) k=bx (cs.drop j) k:=by unfold bx;rw[List.getD_eq_getElem?_getD,List.getD_eq_getElem?_getD,List.getElem?_take,if_pos (by omega)]
      have aN:((Array.range n).map us).getD k undef=us k:=by simp[show k<n by omega]
      rw[aH,aN]
      exact J k (by omega)
    ·cases h
   ·rename_i aV
    have cj:0<(cs.drop j).length:=(List.getElem?_eq_some_iff.1 h).1
    have e:bx (cs.drop j) 0=v:=by unfold bx;rw[List.getD_eq_getElem?_getD,h];rfl
    have:=av w (Ext.refl _ _) 0 cj
    simp only[Nat.add_zero] at this
    have hr:=J5 (P:=P) (T:=T) aV this
    simp only[Instr.loadAt,Instr.sureAddr,Sem.run_bind,Sem.run_pure,Result.andThen_ok] at hr
    exact⟨_,hr,by rw[<- e];exact J 0 cj,b,off,rfl⟩
   ·cases h
  ·cases h
 ·cases h
def xm (tmps:Array Value):ResultVar->Sem Value
 | .tmp t=>pure (tmps.getD t undef)
 | .cell b t=>asAddr (tmps.getD b undef) >>= loadVar t
theorem SG (fn:Func) (tmps:Array Value):results fn tmps=(fn.results.mapM (xm tmps) >>= fun vs=>pure (if h:vs.size=1 then vs[0] else .tuple vs)):=by
 unfold results
 congr 1
theorem Fe {F:Nat->Prop} {base:Nat->Prop} {ρ:Nat->Option Value} {w0 w:World} {st:ba} {a:Act} (ak:en F base ρ st.heap st.next w0 w) (ay:eR ρ (bC F ρ st.heap) w st.ad st.env a):∀ {k3:List ResultVar} {vs:List V},rR P st k3=some vs ->
  ∃ us:List Value,us.length=vs.length/\(k3.mapM (xm a.tmps)).run P w = .ok us w /\ ∀ j,j<vs.length->cC ρ (bC F ρ st.heap) w (bx vs j) (us.getD j undef)
 | [],vs,h=>by
  simp only[rR,Option.some.injEq] at h
  subst h
  exact⟨[],rfl,by simp[Sem.run_pure],fun j ah=>by simp at ah⟩
 | .tmp t :: k3,vs,h=>by
  simp only[rR] at h
  split at h
  ·rename_i v cc I J
   injection h with h;subst h
   obtain ⟨us,aH,aN,bS⟩:=Fe ak ay J
   refine ⟨a.tmps.getD t undef :: us,by simp[aH],by simp only[List.mapM_cons,xm,Sem.run_bind,Sem.run_pure,Result.andThen_ok,aN],fun j ah=>?_⟩
   cases j with
   | zero=>simpa[bx] using ay.slot t v I
   | succ j=>
    have:=bS j jD
    simpa[bx] using this
  ·cases h
 | .cell b T :: k3,vs,h=>by
  simp only[rR] at h
  split at h
  ·rename_i p aw
   split at h
   ·rename_i v cc I J
    injection h with h;subst h
    obtain ⟨us,aH,aN,bS⟩:=Fe ak ay J
    obtain ⟨r,g1,g2,gO,off,g3⟩:=SF (P:=P) ak (ay.slot b p aw) I
    rw[g3] at g1
    refine ⟨r :: us,by simp[aH],?_,fun j ah=>?_⟩
    ·have hr:(xm a.tmps (.cell b T)).run P w = .ok r w:=by
      simp only[xm,g3,asAddr,Sem.run_bind,Sem.run_pure,Result.andThen_ok]
      exact g1
     simp only[List.mapM_cons,Sem.run_bind,hr,Sem.run_pure,Result.andThen_ok,aN]
    ·cases j with
     | zero=>simpa[bx] using g2
     | succ j=>
      have:=bS j jD
      simpa[bx] using this
   ·cases h
  ·cases h
theorem KE {fn:Func} {F:Nat->Prop} {base:Nat->Prop} {ρ:Nat->Option Value} {w0 w:World} {st:ba} {a:Act} {v:V} (ak:en F base ρ st.heap st.next w0 w) (ay:eR ρ (bC F ρ st.heap) w st.ad st.env a) (h:rS P st fn.results.toList=some v) :
  ∃ u,(results fn a.tmps).run P w = .ok u w/\cC ρ (bC F ρ st.heap) w v u:=by
 unfold rS at h
 cases hr:rR P st fn.results.toList with
 | none=>rw[hr] at h;cases h
 | some vs=>
  obtain ⟨us,aH,aN,bS⟩:=Fe ak ay hr
  have kE:(results fn a.tmps).run P w = .ok (if h:us.toArray.size=1 then us.toArray[0] else .tuple us.toArray) w:=by
   rw[SG,Array.mapM_eq_mapM_toList]
   simp only[Sem.run_bind,Sem.run_map,aN,Result.andThen_ok,Sem.run_pure]
  rw[hr] at h
  refine ⟨_,kE,?_⟩
  by_cases I:vs.length=1
  ·obtain ⟨x,rfl⟩:=List.length_eq_one_iff.1 I
   simp only[Option.some.injEq] at h
   subst h
   obtain ⟨y,rfl⟩:=List.length_eq_one_iff.1 (aH.trans I)
   simpa[bx] using bS 0 (by simp)
  ·have hv:v = .b0 vs:=by
    match vs,I,h with
    | [],_,h=>injection h with h;exact h.symm
    | [x],I,_=>exact absurd rfl I
    | x :: y :: r,_,h=>injection h with h;exact h.symm
   subst hv
   have c9:¬ us.toArray.size=1:=by simp;omega
   rw[dif_neg c9]
   exact .b0 (by simp[aH]) (fun j ah=>by have:=bS j ah;simpa using this)
def Ends (P:Program) (fn:Func) (r:V) (e:Exit) (st:ba):Prop:=
 (e = .ret\/e = .normal) /\ ∃ v fT,rS P st fn.results.toList=some v/\gE st.heap v=some fT /\ cZ fT r
theorem aU {f:FuncId} {fn:Func} {c:Code} {args:List V} {r:V} (bu:rP P f=true) (hf:P.funcs[f]? = some fn) (hb:fn.body=some c) (hn:Nat.ble args.length fn.ntmps=true)
    (h:cq P 0 c ⟨rQ 0 args,[],0,fn.ntmps⟩ (Ends P fn r)):Fn P f args r:=by
  refine ⟨bu,fun w S gv dZ hS mj=>calls_of_wp hf hb ?_⟩
  have hn:=Nat.le_of_ble_eq_true hn
  have ak:en S (fun b=>w.heap.size<=b) (fun _=>none) [] 0 w w:=
    { below := mw.refl _ _
      fC:=fun b hb=>hb
      ch:=hS
      sup:=fun id u h=>by cases h
      inj:=fun id dQ B bT u ev b h=>by cases h
      dB:=fun id B h=>by cases h }
  have tb:∀ b,bC S (fun _=>none) [] b ↔ S b:=fun b=>⟨fun h=>h.1,fun h=>⟨h,fun id B u aB=>by simp[bd] at aB⟩⟩
  have ay:eR (fun _=>none) (bC S (fun _=>none) []) w fn.ntmps (rQ 0 args) { tmps:=gv++Array.replicate (fn.ntmps - gv.size) undef,defers:=[] }:=by
    refine ⟨by simp;omega,rfl,fun t v hv=>?_⟩
    obtain ⟨_,J,rfl⟩:=Fb 0 args t v hv
    rw[Nat.sub_zero] at *
    have:=mj t J
    have e:(gv++Array.replicate (fn.ntmps - gv.size) undef).getD t undef=gv.getD t undef:=by
      simp[Array.getElem?_append,show t<gv.size by omega]
    rw[e]
    exact this.mono (dX.refl _ _) (fun b h _=>(tb b).2 h) (fun _ _ h=>h)
  refine wp_mono (h S (fun b=>w.heap.size<=b) w (fun _=>none) _ w ak ay) ?_
  rintro e gQ aE ⟨bm,bG,⟨he,v,fT,hv,hr,pS⟩,I,J,_⟩
  obtain ⟨u,g1,g2⟩:=KE (fn:=fn) I J hv
  have uW:cC (fun _=>none) S aE r u:=pS.rel (E8 I (fun b h _=>h.1) (fun b h _=>hS b h) g2 hr)
  rcases he with rfl|rfl
  · exact⟨J.defers,u,g1,u,rfl,I.below.AD,uW⟩
  · exact⟨J.defers,u,g1,u,rfl,I.below.AD,uW⟩
end
end
section
open Go.RowKit
section
variable {P:Program} {G:List Nat} {o:Oper} {st:ba} {n0:Nat}
def oa (place:Nat->Option (Nat×Nat)) (cells:List V):List (Nat×List V)->Option (List V)
 | []=>some cells
 | (i,v) :: rest=>match place i with
  | none=>none
  | some (off,size)=>bif Nat.beq v.length size && Nat.ble (off+v.length) cells.length then oa place (setAt off v cells) rest else none
def Ff (P:Program) (T:TypeId):Option (Nat->Option (Nat×Nat)):=
 match P.info? T,P.underlying T with
 | some it,some (.array _ e)=>
  match it.zero,P.info? e with
  | some z,some qD=>some (fun i=>some (i * qD.size,qD.size))
  | _,_=>none
 | some it,some (.struct fields)=>
  match it.zero,fields.toList.mapM (fun f=>(P.info? f.type).map fun i=>(f.offset,i.size)) with
  | some z,some KF=>some (KF[·]?)
  | _,_=>none
 | _,_=>none
def lU (env:List (Nat×V)):List (Nat×Operand)->Option (List (Nat×List V))
 | []=>some []
 | (i,x) :: r=>match aI env x with
  | some v=>match flat v,lU env r with
   | some cs,some bK=>some ((i,cs) :: bK)
   | _,_=>none
  | none=>none
def rT (ρ:Nat->Option Value) (S:Nat->Prop) (w:World) (cs:List V) (us:Array Value):Prop:=
 us.size=cs.length /\ ∀ j,j<cs.length->cC ρ S w (bx cs j) (us.getD j undef)/\(us.getD j undef).oneCell' = true
theorem KG (off:Nat):∀ (l:List Value) (k:Nat) (cs:Array Value),off+k+l.length<=cs.size ->
  ((l.zipIdx k).foldl (fun cs (x:Value×Nat)=>cs.setIfInBounds (off+x.2) x.1) cs).size=cs.size /\
  ∀ i,i<cs.size->((l.zipIdx k).foldl (fun cs (x:Value×Nat)=>cs.setIfInBounds (off+x.2) x.1) cs).getD i undef=if off+k<=i/\i<off+k+l.length then l.getD (i - off - k) undef else cs.getD i undef
 | [],k,cs,_=>⟨rfl,fun i hi=>by simp only[List.zipIdx_nil,List.foldl_nil,List.length_nil,Nat.add_zero];rw[if_neg (by omega)]⟩
 | v :: l,k,cs,h=>by
  simp only[List.length_cons] at h
  obtain ⟨I,J⟩:=KG off l (k+1) (cs.setIfInBounds (off+k) v) (by simp;omega)
  simp only[List.zipIdx_cons,List.foldl_cons]
  refine ⟨by rw[I];simp,fun i hi=>?_⟩
  rw[J i (by simpa using hi)]
  simp only[List.length_cons]
  by_cases e:i=off+k
  ·subst e
   rw[if_neg (by omega),if_pos (by omega)]
   have:off+k - off - k=0:=by omega
   rw[this,Array.getD_eq_getD_getElem?,Array.getElem?_setIfInBounds_self_of_lt hi]
   simp
  ·have ml:(cs.setIfInBounds (off+k) v).getD i undef=cs.getD i undef:=by
    rw[Array.getD_eq_getD_getElem?,Array.getD_eq_getD_getElem?,Array.getElem?_setIfInBounds_ne (by omega)]
   rw[ml]
   by_cases hh:off+(k+1)<=i/\i<off+(k+1)+l.length
   ·rw[if_pos hh,if_pos (by omega)]
    have:i - off - k=(i - off - (k+1))+1:=by omega
    rw[this];simp
   ·rw[if_neg hh,if_neg (by omega)]
theorem Fg {ρ:Nat->Option Value} {S:Nat->Prop} {w:World} {place:Nat->Option (Nat×Nat)}:∀ (bK:List (Nat×List V)) (us:List (Nat×Value)) (cs:List V) (cells:Array Value) (r:List V),rT ρ S w cs cells ->
  bK.length=us.length->(∀ k,k<bK.length->(bK.getD k (0,[])).1=(us.getD k (0,undef)).1/\rT ρ S w (bK.getD k (0,[])).2 (us.getD k (0,undef)).2.cells)->oa place cs bK=some r -> ∃ oS,Instr.fill place cells us=some oS /\ rT ρ S w r oS
 | [],[],cs,cells,r,hc,_,_,h=>by
  simp only[oa,Option.some.injEq] at h
  subst h
  exact⟨cells,rfl,hc⟩
 | (i,v) :: bK,(AW,u) :: us,cs,cells,r,hc,aq,aw,h=>by
  have af:=aw 0 (by simp)
  simp only[List.getD_cons_zero] at af
  obtain ⟨e,hv⟩:=af
  subst e
  simp only[oa] at h
  split at h
  ·cases h
  ·rename_i off size ix
   cases hb:(Nat.beq v.length size && Nat.ble (off+v.length) cs.length) with
   | false=>rw[hb] at h;cases h
   | true=>
    rw[hb] at h
    simp only[cond_true] at h
    simp only[Bool.and_eq_true] at hb
    have sn:=Nat.eq_of_beq_eq_true hb.1
    have nk:=Nat.le_of_ble_eq_true hb.2
    obtain ⟨SH,SI⟩:=hc
    obtain ⟨Fh,D4⟩:=hv
    have KH:=KG off u.cells.toList 0 cells (by simp;omega)
    have KI:(u.cells.zipIdx.foldl (fun cs (c,j)=>cs.setIfInBounds (off+j) c) cells)=((u.cells.toList.zipIdx 0).foldl (fun cs (x:Value×Nat)=>cs.setIfInBounds (off+x.2) x.1) cells):=by
     rw[<- Array.foldl_toList,Array.toList_zipIdx]
    obtain ⟨oS,g1,g2⟩:=Fg bK us (setAt off v cs) (u.cells.zipIdx.foldl (fun cs (c,j)=>cs.setIfInBounds (off+j) c) cells) r
     ⟨by rw[KI,KH.1,rL];exact SH,fun j ah=>by
      rw[rL] at ah
      rw[xb _ _ _ nk,KI,KH.2 j (by omega)]
      simp only[Nat.add_zero,Nat.sub_zero,Array.length_toList,Fh]
      by_cases hh:off<=j/\j<off+v.length
      ·rw[if_pos hh,if_pos hh]
       have:=D4 (j - off) (by omega)
       have aN:u.cells.toList.getD (j - off) undef=u.cells.getD (j - off) undef:=by rw[List.getD_eq_getElem?_getD,Array.getD_eq_getD_getElem?];simp
       rw[aN];exact this
      ·rw[if_neg hh,if_neg hh];exact SI j ah⟩
     (by simpa using aq) (fun k ag=>by have:=aw (k+1) (by simp;omega);simpa using this) h
    refine ⟨oS,?_,g2⟩
    simp only[Instr.fill,ix]
    rw[if_neg (by simp;omega)]
    exact g1
theorem Fi {ρ:Nat->Option Value} {S:Nat->Prop} {w:World} {ad:Nat} {env:List (Nat×V)} {a:Act} (ay:eR ρ S w ad env a) (e7:∀ id x,ρ id=some x->x.oneCell' = true):∀ {xs:List (Nat×Operand)} {bK:List (Nat×List V)},lU env xs=some bK ->
  bK.length=(xs.map fun (i,x)=>(i,a.eval x)).length /\ ∀ k,k<bK.length->(bK.getD k (0,[])).1=((xs.map fun (i,x)=>(i,a.eval x)).getD k (0,undef)).1/\rT ρ S w (bK.getD k (0,[])).2 ((xs.map fun (i,x)=>(i,a.eval x)).getD k (0,undef)).2.cells
 | [],bK,h=>by
  simp only[lU,Option.some.injEq] at h
  subst h
  exact⟨rfl,fun k ag=>by simp at ag⟩
 | (i,x) :: r,bK,h=>by
  simp only[lU] at h
  split at h
  ·rename_i v hv
   split at h
   ·rename_i cs SJ I J
    injection h with h;subst h
    obtain ⟨aH,aN⟩:=Fi ay e7 J
    refine ⟨by simp[aH],fun k ag=>?_⟩
    cases k with
    | zero=>exact⟨rfl,AL (c0 ay hv) I e7⟩
    | succ k=>have:=aN k (by simpa using ag);simpa using this
   ·cases h
  ·cases h
theorem SK {T:TypeId} {parts:Array (Nat×Operand)} {bK:List (Nat×List V)} {pl:Nat->Option (Nat×Nat)} {z cs:List V} (aa:o.op = .build T parts) (bh:gR P T=some z) (ix:Ff P T=some pl) (aw:lU st.env parts.toList=some bK) (hf:oa pl z bK=some cs) :
  bw P G o st (.agg cs):=hs fun F base w0 ρ a w ak ay=>by
 obtain ⟨pA,rfl,lP,uP⟩:=AM bh
 obtain ⟨aH,aN⟩:=Fi ay (fun id x h=>(ak.sup id x h).2) aw
 obtain ⟨oS,g1,g2⟩:=Fg (place:=pl) bK _ _ pA.cells cs (E1 (ρ:=ρ) (S:=bC F ρ st.heap) (w:=w) lP) aH aN hf
 have SL:P.built T ((parts.map fun (i,x)=>(i,a.eval x)).toList)=some oS:=by
  rw[Array.toList_map]
  unfold Ff at ix
  unfold Program.built
  split at ix
  ·rename_i it N e xn hu
   rw[xn,hu]
   simp only[]
   split at ix
   ·rename_i z qD sU Fj
    injection ix with ix;subst ix
    have mS:=uP w
    simp[zeroValue,typeInfo,xn,sU,Sem.run_bind,Sem.run_pure,program,Sem.run] at mS
    subst mS
    rw[sU,Fj]
    exact g1
   ·cases ix
  ·rename_i it fields xn hu
   rw[xn,hu]
   simp only[]
   split at ix
   ·rename_i z KF sU Fj
    injection ix with ix;subst ix
    have mS:=uP w
    simp[zeroValue,typeInfo,xn,sU,Sem.run_bind,Sem.run_pure,program,Sem.run] at mS
    subst mS
    rw[sU,Fj]
    simpa using g1
   ·cases ix
  ·cases ix
 refine ⟨.agg oS,.agg g2.1 (fun j ah=>(g2.2 j ah).1),fun aE=>?_⟩
 unfold execOp;rw[aa]
 simp only[Sem.run_bind,run_build aE T _ oS SL];rfl
end
end
section
open Go.RowKit
section
variable {P:Program} {G:List Nat} {o:Oper} {st:ba} {n0:Nat}
def ha (heap:List (Nat×Option aY)):V->Option (List (List V))
 | .ro l=>some l
 | .lit (.slice none 0 _)=>some []
 | .own id=>match bd heap id with
  | some (.row _ _ l)=>some l
  | some (.gb l)=>some l
  | _=>none
 | _=>none
theorem KJ {S:Nat->Prop} {w:World} {l:List (List V)} {u:Value} {s:Nat} (h:fP S w (.ro l) u) (ap:∀ i,i<l.length->(bH l i).length=s) :
  ∃ A c,∃ news:List Value,u = .slice A l.length c/\news.length=l.length * s/\(l.length=0 \/ ∃ a,A=some a /\ ∀ j u,news[j]? = some u->w.cell? (a.add j)=some u) /\ ∀ i j,i<l.length->j<s -> ∃ u,news[i * s+j]? = some u/\fP S w (bx (bH l i) j) u:=by
 generalize hv:V.ro l=v at h
 cases h with
 | lit=>cases hv
 | ro fl A c dv b off us hc hm aw b1 dZ jY hrel=>
  injection hv with hv;subst hv
  by_cases af:0<l.length
  ·have e:dv = s:=by rw[<- dZ 0 af,ap 0 af]
   subst e
   refine ⟨A,c,(List.range (l.length * dv)).map fun k=>us (k / dv) (k % dv),rfl,by simp,.inr ⟨⟨b,off,none⟩,(b1 af).1,fun j u ah=>?_⟩,fun i j hi ah=>⟨us i j,?_,hrel i j hi ah⟩⟩
   ·have cj:j<l.length * dv:=by
     have:=(List.getElem?_eq_some_iff.1 ah).1
     simpa using this
    have hu:us (j / dv) (j % dv)=u:=by
     rw[List.getElem?_map,List.getElem?_range cj] at ah
     simpa using ah
    have hd:j / dv < l.length:=Nat.div_lt_of_lt_mul (by rw[Nat.mul_comm];exact cj)
    have:=jY (j / dv) (j % dv) hd (Nat.mod_lt _ aw)
    have Fk:j / dv * dv + j % dv = j:=by rw[Nat.mul_comm];exact Nat.div_add_mod j dv
    rw[qp,<- hu,<- this,Nat.add_assoc,Fk]
   ·have cj:i * dv + j<l.length * dv:=by
     have:(i+1) * dv <= l.length * dv:=Nat.mul_le_mul_right dv hi
     have J:(i+1) * dv = i * dv + dv:=Nat.succ_mul i dv
     omega
    rw[List.getElem?_map,List.getElem?_range cj]
    have I:(i * dv + j) / dv = i:=by
     rw[Nat.mul_comm,Nat.mul_add_div aw,Nat.div_eq_of_lt ah];rfl
    have J:(i * dv + j) % dv = j:=by
     rw[Nat.mul_comm,Nat.mul_add_mod,Nat.mod_eq_of_lt ah]
    simp[I,J]
  ·have qE:l.length=0:=by omega
   refine ⟨A,c,[],rfl,by simp[qE],.inl qE,fun i j hi=>by omega⟩
theorem Fl {F:Nat->Prop} {base:Nat->Prop} {ρ:Nat->Option Value} {heap:List (Nat×Option aY)} {next:Nat} {w0 w:World} (ak:HRel0 F base ρ heap next w0 w) {v:V} {u:Value} (h:cC ρ (bC F ρ heap) w v u) {l:List (List V)} (hv:ha heap v=some l) {s:Nat} (ap:∀ i,i<l.length->(bH l i).length=s) (af:0<s) :
  ∃ A c,∃ news:List Value,u = .slice A l.length c/\news.length=l.length * s/\(l.length=0 \/ ∃ a,A=some a /\ ∀ j u,news[j]? = some u->w.cell? (a.add j)=some u) /\ ∀ i j,i<l.length->j<s -> ∃ u,news[i * s+j]? = some u/\fP (bC F ρ heap) w (bx (bH l i) j) u:=by
 cases v with
 | ro fl=>
  simp only[ha,Option.some.injEq] at hv
  subst hv
  cases h with
  | pure h=>exact KJ h ap
 | lit x=>
  have e:=ff h
  subst e
  cases u with
  | slice A n c=>
   cases A with
   | none=>
    cases n with
    | zero=>
     simp only[ha,Option.some.injEq] at hv
     subst hv
     exact⟨none,c,[],rfl,by simp,.inl rfl,fun i j hi=>by simp at hi⟩
    | succ=>simp[ha] at hv
   | some=>simp[ha] at hv
  | _=>simp[ha] at hv
 | own id=>
  have I:=mR h
  simp only[ha] at hv
  split at hv
  ·rename_i e dv fl hh
   injection hv with hv;subst hv
   obtain ⟨g0,v,xs,g1,⟨g2,_⟩,g3,g4⟩:=ak.dB _ _ hh
   rw[I] at g1;injection g1 with g1;subst g1
   by_cases qE:0<fl.length
   ·have es:dv = s:=by rw[<- g3 0 qE,ap 0 qE]
    subst es
    rcases g2.2 with⟨_,hn⟩ | ⟨g,cap,dp,SM,_⟩
    ·omega
    ·subst SM
     exact⟨_,_,xs,rfl,g2.1,.inr ⟨_,rfl,g2.cells rfl⟩,fun i j hi ah=>by obtain ⟨u,aT,a1,_⟩:=g4 i j hi ah;exact⟨u,aT,a1⟩⟩
   ·have hn:fl.length=0:=by omega
    rcases g2.2 with⟨rfl,_⟩ | ⟨g,cap,dp,rfl,_⟩
    ·exact⟨_,_,[],by rw[hn],by simp[hn],.inl hn,fun i j hi=>by omega⟩
    ·exact⟨_,_,[],rfl,by simp[hn],.inl hn,fun i j hi=>by omega⟩
  ·rename_i fl hh
   injection hv with hv;subst hv
   obtain ⟨v,g1,g2,g3⟩:=ak.dB _ _ hh
   rw[I] at g1;injection g1 with g1;subst g1
   exact KJ g2 ap
  ·cases hv
 | _=>simp[ha] at hv
theorem KK {base:Nat} {w:World} {t ty e:TypeId} {i:TypeInfo} {z:Value} {s dL:Nat} (ht:P.underlying t=some (.slice e)) (hi:P.info? e=some i) (bh:i.zero=some z) (ap:i.size=s) (hb:i.bytes=dL) (uX:z.cells.size=s) (af:0<s)
  {v:Value} {n:Nat} {xs:List Value} (lr:w.ownsRow base e s v n xs) {A:Option Addr} {m c:Nat} {news:List Value} (aq:news.length=m * s) (b1:m=0 \/ ∃ a,A=some a /\ ∀ j u,news[j]? = some u->w.cell? (a.add j)=some u) (I:∀ u ∈ news,u.oneCell' = true)
  (h63:n+m<=maxLen) (fF:(n+m) * dL<=140737488355328) (fC:base<=w.heap.size) :
  ∃ cX aE,(Builtin.append_ #[t,t] ty #[v,.slice A m c]).run P w = .ok cX aE /\ aE.ownsRow base e s cX (n+m) (xs++news)/\w.grownBy aE v.ownBlock/\(dY cX = dY v \/ ∀ b,dY cX = some b->w.heap.size<=b):=by
 have key:∀ a:Addr,A=some a->(∀ j u,news[j]? = some u->w.cell? (a.add j)=some u) -> ∃ cX aE,(Builtin.append_ #[t,t] ty #[v,.slice A m c]).run P w = .ok cX aE /\ aE.ownsRow base e s cX (n+m) (xs++news)/\w.grownBy aE v.ownBlock/\(dY cX = dY v \/ ∀ b,dY cX = some b->w.heap.size<=b):=by
  rintro a rfl uY
  obtain ⟨cX,aE,hr,aa,aj,pB⟩:=run_append_own (P:=P) (w:=w) base t ty e i z s dL ht hi bh ap hb uX af v n xs lr a m c news aq uY I h63 fF fC
  refine ⟨cX,aE,hr,aa,aj,?_⟩
  have Xz:n+m<=9223372036854775807:=by simp only[maxLen] at h63;omega
  subst ap hb
  rcases lr.2 with⟨rfl,rfl⟩ | ⟨g,cap,dp,rfl,uQ,SN,qz,te,iW,tf⟩
  ·by_cases hm:m=0
   ·have:=pB.2 ⟨rfl,hm⟩
    rw[this];exact .inl rfl
   ·have rU:=run_append_nil (P:=P) w t ty e i z ht hi bh a m c news aq uY (by omega) (by omega) (by have hb:=fF;simp only[Nat.zero_add] at hb;omega)
    rw[hr] at rU
    injection rU with aH _
    rw[aH]
    exact .inr (fun b hb=>by simp only[dY,Option.some.injEq] at hb;omega)
  ·by_cases SO:n+m<=cap
   ·obtain ⟨cR,rU,_⟩:=run_append_fits (P:=P) (w:=w) base t ty e i i.size ht hi rfl g n cap xs lr a m c news aq uY I SO
    rw[hr] at rU
    injection rU with aH _
    rw[aH];exact .inl rfl
   ·have rU:=run_append_grow (P:=P) w t ty e i z ht hi bh ⟨g,0,none⟩ n cap xs lr.1 (lr.cells (g:=g) rfl) a m c news aq uY (by omega) (by omega) (growslice_fits (by omega) fF)
    rw[hr] at rU
    injection rU with aH _
    rw[aH]
    exact .inr (fun b hb=>by simp only[dY,Option.some.injEq] at hb;omega)
 cases A with
 | some a=>
  rcases b1 with hm | ⟨gQ,bj,uY⟩
  ·subst hm
   have hn:news=[]:=List.eq_nil_of_length_eq_zero (by simpa using aq)
   subst hn
   exact key a rfl (fun j u h=>by simp at h)
  ·injection bj with bj;subst bj
   exact key a rfl uY
 | none=>
  have hm:m=0:=by rcases b1 with h | ⟨a,h,_⟩;exact h;cases h
  subst hm
  have hn:news=[]:=List.eq_nil_of_length_eq_zero (by simpa using aq)
  subst hn
  refine ⟨v,w,?_,by simpa using lr,⟨rfl,rfl,rfl,Nat.le_refl _,fun _ _ _=>rfl⟩,.inl rfl⟩
  rcases lr.2 with⟨rfl,rfl⟩ | ⟨g,cap,dp,rfl,uQ,SN,qz,te,iW,tf⟩
  ·simp[Builtin.append_,run_underlying ht,sizeOf,typeInfo,hi,Builtin.lenOf,Builtin.firstCells,Sem.run_bind,Sem.run_pure,program,Sem.run]
  ·simp[Builtin.append_,run_underlying ht,sizeOf,typeInfo,hi,Builtin.lenOf,Builtin.firstCells,Sem.run_bind,Sem.run_pure,program,Sem.run,qz,storeCells]
def j1 (P:Program) (T:TypeId):Option Nat:=(P.info? T).map (·.bytes)
theorem Fm {e s dL:Nat} (ap:dt P e=some s) (hb:j1 P e=some dL) (bh:∃ z,gR P e=some z/\z.length=s):∃ i z,P.info? e=some i/\i.zero=some z/\i.size=s/\i.bytes=dL/\z.cells.size=s:=by
 obtain ⟨pA,kG,lP⟩:=bh
 unfold gR at kG
 unfold dt at ap
 unfold j1 at hb
 cases hi:P.info? e with
 | none=>rw[hi] at ap;cases ap
 | some i=>
  rw[hi] at ap hb kG
  simp only[Option.map_some,Option.some.injEq] at ap hb
  simp only[] at kG
  cases mS:i.zero with
  | none=>rw[mS] at kG;cases kG
  | some z=>
   rw[mS] at kG
   simp only[] at kG
   cases gP:z.cells.toList.all (fun u=>u.oneCell') with
   | false=>rw[gP] at kG;cases kG
   | true=>
    rw[gP] at kG
    simp only[cond_true,Option.some.injEq] at kG
    refine ⟨i,z,rfl,mS,ap,hb,?_⟩
    rw[<- lP,<- kG];simp
theorem fP.one {S:Nat->Prop} {w:World} {v:V} {u:Value} (h:fP S w v u):u.oneCell' = true:=by
 cases h with
 | lit _ h=>exact h
 | ro=>rfl
theorem KL {S:Nat->Prop} {w:World} {l:List (List V)} {news:List Value} {s:Nat} (af:0<s) (aq:news.length=l.length * s) (h:∀ i j,i<l.length->j<s -> ∃ u,news[i * s+j]? = some u/\fP S w (bx (bH l i) j) u):∀ u ∈ news,u.oneCell' = true:=by
 intro u hu
 obtain ⟨k,ag,rfl⟩:=List.getElem_of_mem hu
 have hd:k / s<l.length:=Nat.div_lt_of_lt_mul (by rw[Nat.mul_comm];omega)
 obtain ⟨u,uZ,aw⟩:=h (k / s) (k % s) hd (Nat.mod_lt _ af)
 have Fk:k / s * s+k % s=k:=by rw[Nat.mul_comm];exact Nat.div_add_mod k s
 rw[Fk,List.getElem?_eq_getElem ag] at uZ
 injection uZ with uZ
 rw[uZ]
 exact aw.one
theorem KM (l m:List (List V)) (i:Nat):bH (l++m) i=if i<l.length then bH l i else bH m (i - l.length):=by
 unfold bH
 rw[List.getD_eq_getElem?_getD,List.getD_eq_getElem?_getD,List.getD_eq_getElem?_getD,List.getElem?_append]
 split <;> rfl
theorem Fo {k:Nat} {x y:Operand} {t e s dL id d:Nat} {l m:List (List V)} {v:V} (aa:o.op = .call { callee:=.builtin .append,args:=#[x,y],argTypes:=#[t,t] }) (hd:o.dst=some d) (aL:Nat.blt d st.ad=true)
  (U:aI st.env x=some (.own id)) (hh:bd st.heap id=some (.row e s l)) (ai:aI st.env y=some v) (hv:ha st.heap v=some m)
  (ht:P.underlying t=some (.slice e)) (ap:dt P e=some s) (hb:j1 P e=some dL) (bh:∃ z,gR P e=some z/\z.length=s)
  (hm:∀ i,i<m.length->(bH m i).length=s) (fF:(l.length+m.length) * dL<=140737488355328) (h63:l.length+m.length<=9223372036854775807) :
  ko P k o st { env:=(d,.own k) :: st.env,heap:=(k,some (.row e s (l++m))) :: (id,none) :: st.heap,next:=st.next,ad:=st.ad }:=fun F base w0 ρ a w ak ay eH ag=>by
 obtain ⟨i,z,hi,kG,dZ,gP,uX⟩:=Fm ap hb bh
 have pC:=mR (c0 ay U)
 obtain ⟨af,r,xs,I,⟨J,KN⟩,av,bl⟩:=ak.dB _ _ hh
 rw[pC] at I;injection I with I;subst I
 obtain ⟨A,c,news,hu,lJ,b1,hrel⟩:=Fl ak.toHRel0 (c0 ay ai) hv hm af
 have n7:=KL af lJ hrel
 obtain ⟨cX,aE,hr,lr,aj,iZ⟩:=KK (P:=P) (ty:=o.type) ht hi kG dZ gP uX af J (c:=c) lJ b1 n7 pf fF (Nat.zero_le _)
 have hid:id≠k:=fun e=>by rw[e,eH] at pC;cases pC
 have nF:∀ id x,ρ id=some x->lO ρ k cX id=some x:=fun id x h=>by rw[mx _ _ (fun e=>by rw[e,eH] at h;cases h)];exact h
 have ti:∀ b,(a.eval x).ownBlock=some b->dY (a.eval x)=some b:=fun b hb=>by
  cases SP:a.eval x <;> rw[SP] at hb <;> simp[Value.ownBlock] at hb
  rename_i a0 _ _
  cases a0 <;> simp_all [Value.ownBlock,dY]
 have Fp:cX.oneCell' = true:=by rcases lr.2 with⟨rfl,_⟩ | ⟨_,_,_,rfl,_⟩ <;> rfl
 refine my (u:=cX) (aE:=aE) ?_ ?_
 ·unfold execOp;rw[aa]
  simp only[resolve,invoke,builtin,Sem.run_bind,Sem.run_pure,Result.andThen_ok,List.map_toArray,List.map_cons,List.map_nil,hu,hr]
 ·rw[hd]
  obtain ⟨aT,a1,bz⟩:=ak.step (bm:=lO ρ k cX) (cS:=(k,some (.row e s (l++m))) :: (id,none) :: st.heap) (next':=st.next) k (a.eval x).ownBlock aj
   (fun mT ag=>by
    have fw:=ti mT ag
    exact⟨(ak.owned hh rfl pC fw).1,fun jq=>jq.2 id _ _ hh rfl pC fw⟩) nF
   (fun id x h=>by
    by_cases e:id=k
    ·rw[e,hx] at h;injection h with h;subst h;exact⟨by omega,Fp⟩
    ·rw[mx _ _ e] at h;have:=ak.sup _ _ h;exact⟨by omega,this.2⟩)
   (fun j B c9 aB=>by
    rw[ea,if_neg (Ne.symm c9),ea] at aB
    split at aB
    ·cases aB
    ·rename_i lV
     refine ⟨aB,?_⟩
     obtain ⟨u,hu⟩:=ak.oM aB
     exact⟨u,hu,fun aa b hb e=>lV (ak.inj id j _ B _ u b hh aB rfl aa pC hu (ti b e) hb)⟩)
   (fun B u b aB wW hu hb=>by
    rw[hx] at hu;injection hu with hu;subst hu
    rcases iZ with iZ|iZ
    ·rw[iZ] at hb
     refine .inr ⟨fun jq=>jq.2 id _ _ hh rfl pC hb,fun j bT ev c9 cJ eJ ec dl=>?_⟩
     rw[ea,if_neg (Ne.symm c9),ea] at cJ
     split at cJ
     ·cases cJ
     ·rename_i lV
      rw[mx _ _ c9] at ec
      exact lV (ak.inj id j _ bT _ ev b hh cJ rfl eJ pC ec hb dl)
    ·exact .inl (iZ b hb))
   (fun B aB hS eV=>by
    rw[ea,if_pos rfl] at aB;injection aB with aB;subst aB
    refine ⟨af,cX,xs++news,hx _ _ _,⟨(by rw[List.length_append];exact lr),fun b hb=>iZ.elim (fun iZ=>KN b (by rw[<- iZ];exact hb)) (fun iZ=>ak.fC b (iZ b hb))⟩,fun k ag=>?_,fun k j ag ah=>?_⟩
    ·rw[KM]
     split
     ·rename_i ct;exact av k ct
     ·rename_i ct;rw[List.length_append] at ag;exact hm _ (by omega)
    ·rw[KM]
     have Kn:xs.length=l.length * s:=J.1
     split
     ·rename_i ct
      obtain ⟨u,g1,g2,g3⟩:=bl k j ct ah
      have KO:k * s+j<l.length * s:=by
       have dm:(k+1) * s<=l.length * s:=Nat.mul_le_mul_right s ct
       have fr:(k+1) * s=k * s+s:=Nat.succ_mul k s
       omega
      exact⟨u,by rw[List.getElem?_append_left (by omega)];exact g1,g2.mono eV hS,g3⟩
     ·rename_i ct
      rw[List.length_append] at ag
      obtain ⟨u,g1,g2⟩:=hrel (k - l.length) j (by omega) ah
      have dm:(k - l.length) * s=k * s - l.length * s:=Nat.sub_mul k l.length s
      have fr:l.length * s<=k * s:=Nat.mul_le_mul_right s (by omega)
      refine ⟨u,?_,g2.mono eV hS,?_⟩
      ·rw[List.getElem?_append_right (by omega),Kn,show k * s+j - l.length * s=(k - l.length) * s+j by omega]
       exact g1
      ·exact g2.one)
  exact⟨lO ρ k cX,aT,(ay.mono a1 bz nF).put (Nat.le_of_ble_eq_true aL) (.own (hx _ _ _)),nF,fun j ah=>mx _ _ ah⟩
theorem SQ {x y:Operand} {t e s dL id d:Nat} {l m:List (List V)} {v:V} (aa:o.op = .call { callee:=.builtin .append,args:=#[x,y],argTypes:=#[t,t] }) (hd:o.dst=some d) (aL:Nat.blt d st.ad=true) (hn0:Nat.ble n0 st.next=true)
  (U:aI st.env x=some (.own id)) (hh:bd st.heap id=some (.row e s l)) (ai:aI st.env y=some v) (hv:ha st.heap v=some m)
  (ht:P.underlying t=some (.slice e)) (ap:dt P e=some s) (hb:j1 P e=some dL) (bh:∃ z,gR P e=some z/\z.length=s)
  (hm:∀ i,i<m.length->(bH m i).length=s) (fF:(l.length+m.length) * dL<=140737488355328) (h63:l.length+m.length<=9223372036854775807) :
  GStep P n0 o st { env:=(d,.own st.next) :: st.env,heap:=(st.next,some (.row e s (l++m))) :: (id,none) :: st.heap,next:=st.next+1,ad:=st.ad }:=
 n5 (Nat.le_of_ble_eq_true hn0) (Fo (st:={ st with next:=st.next+1 }) aa hd aL U hh ai hv ht ap hb bh hm fF h63)
theorem ic {t n:Nat} {st:ba} (e s:Nat) (af:Nat.blt 0 s=true) (hn0:Nat.ble n0 st.next=true) (ht:cG st.env t=some (.lit (.slice none 0 0))) :
  cu P n0 st { env:=(t,.own st.next) :: st.env,heap:=(st.next,some (.row e s [])) :: st.heap,next:=st.next+1,ad:=st.ad }:=fun F base w0 ρ a w ak ay=>by
 have hv:=ff (ay.slot t _ ht)
 have eH:ρ st.next=none:=by
  cases h:ρ st.next with
  | none=>rfl
  | some x=>exact absurd (ak.sup _ _ h).1 (Nat.lt_irrefl _)
 have nF:∀ id x,ρ id=some x->lO ρ st.next (.slice none 0 0) id=some x:=fun id x h=>by rw[mx _ _ (fun e=>by rw[e,eH] at h;cases h)];exact h
 obtain ⟨aT,a1,bz⟩:=ak.step (bm:=lO ρ st.next (.slice none 0 0)) (cS:=(st.next,some (.row e s [])) :: st.heap) (next':=st.next+1) (aE:=w) st.next none
  ⟨rfl,rfl,rfl,Nat.le_refl _,fun _ _ _=>rfl⟩ (fun k ag=>by cases ag) nF
  (fun id x h=>by
   by_cases e:id=st.next
   ·rw[e,hx] at h;injection h with h;subst h;exact⟨by omega,rfl⟩
   ·rw[mx _ _ e] at h;have:=ak.sup _ _ h;exact⟨by omega,this.2⟩)
  (fun j B c9 aB=>by
   rw[ea,if_neg (Ne.symm c9)] at aB
   obtain ⟨u,hu⟩:=ak.oM aB
   exact⟨aB,u,hu,fun _ _ _ e=>by cases e⟩)
  (fun B u b aB wW hu hb=>by
   rw[hx] at hu;injection hu with hu;subst hu
   simp[dY] at hb)
  (fun B aB hS eV=>by
   rw[ea,if_pos rfl] at aB;injection aB with aB;subst aB
   exact⟨Nat.le_of_ble_eq_true af,_,[],hx _ _ _,⟨World.ownsRow_nil w 0 e s,fun b hb=>by cases hb⟩,fun i hi=>by simp at hi,fun i j hi=>by simp at hi⟩)
 refine ⟨_,aT,?_,fun j ah=>mx _ _ (by have:=Nat.le_of_ble_eq_true hn0;omega)⟩
 have J:=ay.mono a1 bz nF
 refine ⟨J.size,J.defers,fun x v U=>?_⟩
 simp only[cG] at U
 cases hb:Nat.beq t x with
 | true=>
  rw[hb] at U
  simp only[cond_true,Option.some.injEq] at U
  subst U
  have:=Nat.eq_of_beq_eq_true hb
  subst this
  exact .own (by rw[hv];exact hx _ _ _)
 | false=>
  rw[hb] at U
  exact J.slot x v U
theorem Fq {id e s:Nat} {l:List (List V)} {st:ba} (hh:bd st.heap id=some (.row e s l)):cu P n0 st { st with heap:=(id,some (.gb l)) :: st.heap }:=fun F base w0 ρ a w ak ay=>by
 obtain ⟨af,r,xs,I,⟨J,KN⟩,av,bl⟩:=ak.dB _ _ hh
 have hS:∀ b,bC F ρ st.heap b->bC F ρ ((id,some (.gb l)) :: st.heap) b:=fun b h=>⟨h.1,fun j B u aB aa hu=>by
  rw[ea] at aB
  split at aB
  ·injection aB with aB;subst aB;cases aa
  ·exact h.2 j B u aB aa hu⟩
 have Fs:∀ b,dY r=some b->bC F ρ ((id,some (.gb l)) :: st.heap) b:=fun b hb=>by
  have ti:=ak.owned hh rfl I hb
  refine ⟨ak.ch b ti.1,fun j B u aB aa hu Ft=>?_⟩
  rw[ea] at aB
  split at aB
  ·injection aB with aB;subst aB;cases aa
  ·rename_i lV
   exact lV (ak.inj id j _ B r u b hh aB rfl aa I hu hb Ft)
 refine ⟨ρ,⟨⟨ak.below,ak.fC,ak.sup,fun i j B bT u ev b aB cJ aa eJ hu ec hb dl=>?_,fun j B aB=>?_⟩,ak.ch⟩,ay.mono (dX.refl _ _) (fun b h _=>hS b h) (fun _ _ h=>h),fun _ _=>rfl⟩
 ·rw[ea] at aB cJ
  split at aB
  ·injection aB with aB;subst aB;cases aa
  ·split at cJ
   ·injection cJ with cJ;subst cJ;cases eJ
   ·exact ak.inj i j B bT u ev b aB cJ aa eJ hu ec hb dl
 ·rw[ea] at aB
  split at aB
  ·rename_i e;subst e
   injection aB with aB;subst aB
   refine ⟨r,I,E7 af J av bl (fun b h _=>hS b h) Fs,fun a n c hr=>?_⟩
   rcases J.2 with⟨rfl,_⟩ | ⟨g,cap,dp,rfl,_⟩
   ·cases hr
   ·injection hr with hr;injection hr with hr;rw[<- hr]
  ·exact(ak.dB j B aB).mono (dX.refl _ _) (fun b h _=>hS b h) (fun _ _ h=>h) (fun _ _ _ _ _ _=>rfl)
end
end
section
open Go.RowKit
section
variable {P:Program} {n0:Nat} {ops:List Oper} {o:Oper} {rest:List Oper} {st:ba} {Q:ba->Prop}
def Fu (op:BinOp) (u v:Value):Option Value:=
 match u,v with
 | .int k m,.int bq n=>bif decide (k=bq) then(match op with
   | .add=>some (.int k (k.wrap (m+n)))
   | .sub=>some (.int k (k.wrap (m - n)))
   | .mul=>some (.int k (k.wrap (m * n)))
   | .and=>some (.int k (ee .and k m n))
   | .or=>some (.int k (ee .or k m n))
   | .xor=>some (.int k (ee .xor k m n))
   | .andNot=>some (.int k (ee .andNot k m n))
   | _=>none) else none
 | _,_=>none
theorem SR {op:BinOp} {T cA:TypeId} {x y:Operand} {u v r:Value} {G:List Nat} (aa:o.op = .binOp op T x y cA) (U:aI st.env x=some (.lit u)) (ai:aI st.env y=some (.lit v)) (h:Fu op u v=some r):bw P G o st (.lit r):=by
 unfold Fu at h
 split at h
 ·rename_i k m bq n
  cases ag:decide (k=bq) with
  | false=>rw[ag] at h;cases h
  | true=>
   rw[ag] at h
   have ag:=of_decide_eq_true ag
   subst ag
   simp only[cond_true] at h
   split at h
   ·injection h with h;subst h;exact JT aa U ai
   ·injection h with h;subst h;exact JU aa U ai
   ·injection h with h;subst h;exact JV aa U ai
   ·injection h with h;subst h;exact R4 aa U ai
   ·injection h with h;subst h;exact R5 aa U ai
   ·injection h with h;subst h;exact R6 aa U ai
   ·injection h with h;subst h;exact R7 aa U ai
   ·cases h
 ·cases h
def Fv (op:UnOp) (u:Value):Option Value:=
 match op,u with
 | .not,.bool b=>some (.bool (bif b then false else true))
 | .neg,.int k n=>some (.int k (k.wrap (0 - n)))
 | .xor,.int k n=>some (.int k (ee .xor k (if k.signed then -1 else k.max) n))
 | _,_=>none
theorem SS {op:UnOp} {T:TypeId} {x:Operand} {u r:Value} {G:List Nat} (aa:o.op = .unOp op T x) (U:aI st.env x=some (.lit u)) (h:Fv op u=some r):bw P G o st (.lit r):=by
 unfold Fv at h
 split at h
 ·injection h with h;subst h
  rename_i b
  have:=R9 (P:=P) (G:=G) aa U
  cases b <;> exact this
 ·injection h with h;subst h;exact Sa aa U
 ·injection h with h;subst h;exact Sb aa U
 ·cases h
def xo (P:Program) (G:List Nat) (st:ba) (T:TypeId) (p:V):Option V:=
 match p with
 | .e9 cs=>match jH P T with
  | some true=>match dt P T with
   | some n=>bif Nat.ble n cs.length then some (.agg (cs.take n)) else none
   | none=>none
  | some false=>cs[0]?
  | none=>none
 | .ptr id 0 _ j=>match bd st.heap id with
  | some (.box _ cs)=>bif pw id G then(match jH P T with
   | some true=>match dt P T with
    | some n=>bif Nat.ble n (cs.drop j).length then some (.agg ((cs.drop j).take n)) else none
    | none=>none
   | some false=>(cs.drop j)[0]?
   | none=>none) else none
  | _=>none
 | _=>none
theorem SU {T:TypeId} {x:Operand} {p v:V} {G:List Nat} (aa:o.op = .load T x) (U:aI st.env x=some p) (h:xo P G st T p=some v):bw P G o st v:=by
 have key:∀ cs:List V,Reads G st p cs->(match jH P T with
  | some true=>match dt P T with
   | some n=>bif Nat.ble n cs.length then some (V.agg (cs.take n)) else none
   | none=>none
  | some false=>cs[0]?
  | none=>none)=some v->bw P G o st v:=by
  intro cs hr h
  cases aV:jH P T with
  | none=>rw[aV] at h;cases h
  | some b=>
   rw[aV] at h
   cases b with
   | false=>exact nB aa U aV hr h
   | true=>
    cases hn:dt P T with
    | none=>simp only[hn] at h;cases h
    | some n=>
     simp only[hn] at h
     cases hb:Nat.ble n cs.length with
     | false=>rw[hb] at h;cases h
     | true=>
      rw[hb] at h
      injection h with h;subst h
      exact mn aa U aV hn hr (Nat.le_of_ble_eq_true hb)
 cases p with
 | e9 cs=>exact key cs Sr h
 | ptr id i s j=>
  cases i with
  | succ=>cases h
  | zero=>
   cases hh:bd st.heap id with
   | none=>simp only[xo,hh] at h;cases h
   | some B=>
    cases B with
    | box t cs=>
     simp only[xo,hh] at h
     cases jZ:pw id G with
     | false=>rw[jZ] at h;cases h
     | true=>
      rw[jZ] at h
      exact key (cs.drop j) (J9 hh jZ) h
    | _=>simp only[xo,hh] at h;cases h
 | _=>cases h
def xp (P:Program) (st:ba) (t:TypeId) (x:V):Option V:=
 match P.underlying t with
 | some (.slice _)=>match x with
  | .ro l=>some (.lit (.int .i64 l.length))
  | .lit (.slice _ n _)=>some (.lit (.int .i64 n))
  | .own id=>match bd st.heap id with
   | some (.row _ _ l)=>some (.lit (.int .i64 l.length))
   | some (.gb l)=>some (.lit (.int .i64 l.length))
   | _=>none
  | _=>none
 | some .string=>match x with
  | .lit (.string s)=>some (.lit (.int .i64 s.size))
  | _=>none
 | some (.array n _)=>some (.lit (.int .i64 n))
 | _=>none
theorem Fw {t:TypeId} {x:Operand} {p v:V} {G:List Nat} (aa:o.op = .call { callee:=.builtin .len,args:=#[x],argTypes:=#[t] }) (U:aI st.env x=some p) (h:xp P st t p=some v):bw P G o st v:=by
 unfold xp at h
 split at h
 ·rename_i e ht
  split at h
  ·injection h with h;subst h;exact Se aa U ht
  ·injection h with h;subst h;exact Sf aa U ht
  ·split at h
   ·rename_i hh;injection h with h;subst h;exact Sg aa U hh ht
   ·rename_i hh;injection h with h;subst h;exact Sh aa U hh ht
   ·cases h
  ·cases h
 ·rename_i ht
  split at h
  ·injection h with h;subst h;exact EV aa U ht
  ·cases h
 ·rename_i ht
  injection h with h;subst h;exact Si aa ht
 ·cases h
def tj (P:Program) (G:List Nat) (st:ba):Op->Option V
 | .move x=>aI st.env x
 | .assign x=>aI st.env x
 | .pick c x y=>match aI st.env c with
  | some (.lit (.bool b))=>bif b then aI st.env x else aI st.env y
  | _=>none
 | .binOp op _ x y _=>match aI st.env x with
  | some (.lit u)=>match aI st.env y with
   | some (.lit v)=>match Fu op u v with
    | some r=>some (.lit r)
    | none=>none
   | _=>none
  | _=>none
 | .unOp op _ x=>match aI st.env x with
  | some (.lit u)=>match Fv op u with
   | some r=>some (.lit r)
   | none=>none
  | _=>none
 | .load T x=>match aI st.env x with
  | some p=>xo P G st T p
  | none=>none
 | .fieldAddr T x f=>match w8 P T f with
  | some n=>match aI st.env x with
   | some (.ptr id i s j)=>some (.ptr id i s (j+n))
   | some (.e9 cs)=>some (.e9 (cs.drop n))
   | _=>none
  | none=>none
 | .extract x i=>match aI st.env x with
  | some (.b0 vs)=>vs[i]?
  | _=>none
 | .convert T bR x=>match P.underlying T with
  | some d=>match P.underlying bR with
   | some (.int bq)=>match aI st.env x with
    | some (.lit (.int _ n))=>some (.lit (.int bq (bq.wrap n)))
    | _=>none
   | some .string=>match d with
    | .string=>match aI st.env x with
     | some (.lit (.string s))=>some (.lit (.string s))
     | _=>none
    | _=>none
   | _=>none
  | none=>none
 | .build T parts=>match gR P T with
  | some z=>match Ff P T with
   | some pl=>match lU st.env parts.toList with
    | some bK=>match oa pl z bK with
     | some cs=>some (.agg cs)
     | none=>none
    | none=>none
   | none=>none
  | none=>none
 | .call { callee:=.builtin .len,args:=⟨[x]⟩,argTypes:=⟨[t]⟩ }=>match aI st.env x with
  | some p=>xp P st t p
  | none=>none
 | .call { callee:=.builtin .max,args:=⟨[x,y]⟩,argTypes:=_ }=>match aI st.env x with
  | some (.lit (.int k m))=>match aI st.env y with
   | some (.lit (.int bq n))=>bif decide (k=bq) then some (.lit (.int k (max m n))) else none
   | _=>none
  | _=>none
 | .call { callee:=.builtin .min,args:=⟨[x,y]⟩,argTypes:=_ }=>match aI st.env x with
  | some (.lit (.int k m))=>match aI st.env y with
   | some (.lit (.int bq n))=>bif decide (k=bq) then some (.lit (.int k (min m n))) else none
   | _=>none
  | _=>none
 | _=>none
theorem Fx {v:V} {G:List Nat} (h:tj P G st o.op=some v):bw P G o st v:=by
 generalize fZ:o.op=op at h
 unfold tj at h
 split at h
 ·exact RS fZ h
 ·exact RT fZ h
 ·split at h
  ·rename_i b hc
   cases b
   ·exact RW fZ hc h
   ·exact RV fZ hc h
  ·cases h
 ·split at h
  ·rename_i U
   split at h
   ·rename_i ai
    split at h
    ·rename_i hr;injection h with h;subst h;exact SR fZ U ai hr
    ·cases h
   ·cases h
  ·cases h
 ·split at h
  ·rename_i U
   split at h
   ·rename_i hr;injection h with h;subst h;exact SS fZ U hr
   ·cases h
  ·cases h
 ·split at h
  ·rename_i U;exact SU fZ U h
  ·cases h
 ·split at h
  ·rename_i hn
   split at h
   ·rename_i U;injection h with h;subst h;exact Sn fZ U hn
   ·rename_i U;injection h with h;subst h;exact Sp fZ U hn
   ·cases h
  ·cases h
 ·split at h
  ·rename_i U;exact Sd fZ U h
  ·cases h
 ·split at h
  ·rename_i d aV
   split at h
   ·rename_i h3
    split at h
    ·rename_i U;injection h with h;subst h;exact JZ fZ U aV h3
    ·cases h
   ·rename_i h3
    split at h
    ·split at h
     ·rename_i U;injection h with h;subst h;exact Sc fZ U aV h3
     ·cases h
    ·cases h
   ·cases h
  ·cases h
 ·split at h
  ·rename_i bh
   split at h
   ·rename_i ix
    split at h
    ·rename_i aw
     split at h
     ·rename_i hf;injection h with h;subst h;exact SK fZ bh ix aw hf
     ·cases h
    ·cases h
   ·cases h
  ·cases h
 ·split at h
  ·rename_i U;exact Fw fZ U h
  ·cases h
 ·split at h
  ·rename_i k m U
   split at h
   ·rename_i bq n ai
    cases ag:decide (k=bq) with
    | false=>rw[ag] at h;cases h
    | true=>
     rw[ag] at h
     have ag:=of_decide_eq_true ag
     subst ag
     injection h with h;subst h
     exact Sj fZ U ai
   ·cases h
  ·cases h
 ·split at h
  ·rename_i k m U
   split at h
   ·rename_i bq n ai
    cases ag:decide (k=bq) with
    | false=>rw[ag] at h;cases h
    | true=>
     rw[ag] at h
     have ag:=of_decide_eq_true ag
     subst ag
     injection h with h;subst h
     exact Sk fZ U ai
   ·cases h
  ·cases h
 ·cases h
def AX (env:List (Nat×V)):Op->Option Prop
 | .binOp op _ x y _=>match aI env x with
  | some (.lit (.int k m))=>match aI env y with
   | some (.lit (.int bq n))=>bif decide (k=bq) then(match op with
    | .lss=>some (m<n)
    | .leq=>some (m<=n)
    | .gtr=>some (n<m)
    | .geq=>some (n<=m)
    | .eql=>some (m=n)
    | .neq=>some (¬ m=n)
    | _=>none) else none
   | _=>none
  | _=>none
 | _=>none
theorem AY {p:Prop} {G:List Nat} (h:AX st.env o.op=some p):(p->bw P G o st (.lit (.bool true)))/\(¬ p->bw P G o st (.lit (.bool false))):=by
 have key:∀ (p:Prop) [Decidable p],bw P G o st (.lit (.bool (decide p)))->(p->bw P G o st (.lit (.bool true)))/\(¬ p->bw P G o st (.lit (.bool false))):=fun p _ h=>⟨fun aw=>by rw[decide_eq_true aw] at h;exact h,fun aw=>by rw[decide_eq_false aw] at h;exact h⟩
 generalize fZ:o.op=op at h
 unfold AX at h
 split at h
 ·split at h
  ·rename_i k m U
   split at h
   ·rename_i bq n ai
    cases ag:decide (k=bq) with
    | false=>rw[ag] at h;cases h
    | true=>
     rw[ag] at h
     have ag:=of_decide_eq_true ag
     subst ag
     simp only[cond_true] at h
     split at h
     ·injection h with h;subst h;exact key _ (RX fZ U ai)
     ·injection h with h;subst h;exact key _ (RY fZ U ai)
     ·injection h with h;subst h;exact key _ (RZ fZ U ai)
     ·injection h with h;subst h;exact key _ (R0 fZ U ai)
     ·injection h with h;subst h;exact key _ (R2 fZ U ai)
     ·injection h with h;subst h;exact key _ (R3 fZ U ai)
     ·cases h
   ·cases h
  ·cases h
 ·cases h
def AZ (env:List (Nat×V)) (P:Program):Op->Option (IntKind×Int)
 | .binOp op _ x y _=>match aI env x with
  | some (.lit (.int k m))=>match aI env y with
   | some (.lit (.int bq n))=>bif decide (k=bq) then(match op with
    | .add=>some (k,m+n)
    | .sub=>some (k,m - n)
    | .mul=>some (k,m * n)
    | _=>none) else none
   | _=>none
  | _=>none
 | .convert T bR x=>match P.underlying bR with
  | some (.int bq)=>match P.underlying T with
   | some _=>match aI env x with
    | some (.lit (.int _ n))=>some (bq,n)
    | _=>none
   | none=>none
  | _=>none
 | _=>none
theorem KP {k:IntKind} {r:Int} {G:List Nat} (h:AZ st.env P o.op=some (k,r)):bw P G o st (.lit (.int k (k.wrap r))):=by
 generalize fZ:o.op=op at h
 unfold AZ at h
 split at h
 ·split at h
  ·rename_i k m U
   split at h
   ·rename_i bq n ai
    cases ag:decide (k=bq) with
    | false=>rw[ag] at h;cases h
    | true=>
     rw[ag] at h
     have ag:=of_decide_eq_true ag
     subst ag
     simp only[cond_true] at h
     split at h
     ·injection h with h;injection h with I J;subst I;subst J;exact JT fZ U ai
     ·injection h with h;injection h with I J;subst I;subst J;exact JU fZ U ai
     ·injection h with h;injection h with I J;subst I;subst J;exact JV fZ U ai
     ·cases h
   ·cases h
  ·cases h
 ·split at h
  ·rename_i h3
   split at h
   ·rename_i aV
    split at h
    ·rename_i U;injection h with h;injection h with I J;subst I;subst J;exact JZ fZ U aV h3
    ·cases h
   ·cases h
  ·cases h
 ·cases h
def Fy (heap:List (Nat×Option aY)):V->Option (List (List V))
 | .ro l=>some l
 | .own id=>match bd heap id with
  | some (.row _ _ l)=>some l
  | some (.gb l)=>some l
  | _=>none
 | _=>none
inductive Norm:List V->List V->Prop
 | nil:Norm [] []
 | cons {c:V} {cs ds:List V} (h:Norm cs ds):Norm (c :: cs) (c :: ds)
theorem Norm.eq {cs ds:List V} (h:Norm cs ds):cs=ds:=by
 induction h with
 | nil=>rfl
 | cons h cf=>rw[cf]
inductive hO:V->V->Prop
 | agg {cs ds:List V} (h:Norm cs ds):hO (.agg cs) (.agg ds)
 | e9 {cs ds:List V} (h:Norm cs ds):hO (.e9 cs) (.e9 ds)
 | same {v:V}:hO v v
theorem hO.eq {v u:V} (h:hO v u):v=u:=by
 cases h with
 | agg h=>rw[h.eq]
 | e9 h=>rw[h.eq]
 | same=>rfl
end
section
variable {P:Program} {n0:Nat} {ops:List Oper} {o:Oper} {rest:List Oper} {env:List (Nat×V)} {heap:List (Nat×Option aY)} {next ad:Nat} {Q:ba->Prop}
theorem gS {v:V} {d:Nat} (aj:bW env ops o.guard=some true) (hd:o.dst=some d) (aL:Nat.blt d ad=true) (hq:bw P [] o ⟨env,heap,next,ad⟩ v) (h:a8 P n0 ops.toArray rest ⟨(d,v) :: env,heap,next,ad⟩ Q):a8 P n0 ops.toArray (o :: rest) ⟨env,heap,next,ad⟩ Q:=
 Sz (v:=v) aj nz hq (by rw[hd];exact h)
theorem xq {d:Nat} (aj:bW env ops o.guard=some false:=by rfl) (hd:o.dst=some d:=by rfl) (aL:Nat.blt d ad=true:=by rfl) (h:a8 P n0 ops.toArray rest ⟨(d,.gl) :: env,heap,next,ad⟩ Q):a8 P n0 ops.toArray (o :: rest) ⟨env,heap,next,ad⟩ Q:=
 Ks aj nz (by rw[hd];exact h)
theorem xr {v u:V} {d:Nat} (hq:tj P [] ⟨env,heap,next,ad⟩ o.op=some v:=by rfl) (aj:bW env ops o.guard=some true:=by rfl) (eI:hO v u:=by first|(apply hO.agg;repeat' first|exact Norm.nil|apply Norm.cons)|(apply hO.e9;repeat' first|exact Norm.nil|apply Norm.cons)|exact hO.same)
  (hd:o.dst=some d:=by rfl) (aL:Nat.blt d ad=true:=by rfl) (h:a8 P n0 ops.toArray rest ⟨(d,u) :: env,heap,next,ad⟩ Q):a8 P n0 ops.toArray (o :: rest) ⟨env,heap,next,ad⟩ Q:=
 gS aj hd aL (by rw[<- eI.eq];exact Fx hq) h
theorem xt {x:Operand} {t e:TypeId} {v:V} {l:List (List V)} {n d:Nat} (aa:o.op = .call { callee:=.builtin .len,args:=#[x],argTypes:=#[t] }:=by rfl) (U:aI env x=some v:=by rfl) (aq:Fy heap v=some l:=by rfl)
  (ht:P.underlying t=some (.slice e):=by rfl) (hn:l.length=n:=by first|exact List.length_map _|(simp only[List.length_map,List.length_append,List.length_cons,List.length_nil,List.length_set];rfl)|rfl)
  (aj:bW env ops o.guard=some true:=by rfl) (hd:o.dst=some d:=by rfl) (aL:Nat.blt d ad=true:=by rfl) (h:a8 P n0 ops.toArray rest ⟨(d,.lit (.int .i64 n)) :: env,heap,next,ad⟩ Q):a8 P n0 ops.toArray (o :: rest) ⟨env,heap,next,ad⟩ Q:=by
 subst hn
 refine gS aj hd aL (Fw (P:=P) aa U ?_) h
 unfold xp
 rw[ht]
 cases v with
 | ro fl=>simp only[Fy,Option.some.injEq] at aq;subst aq;rfl
 | own id=>
  simp only[Fy] at aq
  split at aq
  ·rename_i hh;injection aq with aq;subst aq;simp only[hh]
  ·rename_i hh;injection aq with aq;subst aq;simp only[hh]
  ·cases aq
 | _=>cases aq
theorem uv:(0:Int)=((0:Nat):Int):=rfl
theorem uw:(1:Int)=((1:Nat):Int):=rfl
theorem ux:(2:Int)=((2:Nat):Int):=rfl
theorem Dw {k:Nat} (h:0<k):(k:Int) - 1=((k - 1:Nat):Int):=by omega
theorem Dx {k j:Nat} (h:j<=k):(k:Int) - (j:Int)=((k - j:Nat):Int):=by omega
theorem uy:(3:Int)=((3:Nat):Int):=rfl
theorem bB {v u:V} {d:Nat} (aj:bW env ops o.guard=some true:=by rfl) (hd:o.dst=some d:=by rfl) (aL:Nat.blt d ad=true:=by rfl)
  (hq:bw P [] o ⟨env,heap,next,ad⟩ v:=by
   first
    | exact eo rfl rfl rfl zS uz rfl rfl rfl (je _ (by omega))
    | exact J4 rfl rfl rfl rfl zS Ir rfl rfl
    | exact nB rfl rfl rfl (im rfl uz rfl (je _ (by omega))) rfl
    | exact mn rfl rfl rfl rfl (im rfl uz rfl (je _ (by omega))) (Nat.le_of_ble_eq_true rfl)
    | exact ER rfl rfl rfl (by omega)
    | exact ES rfl rfl rfl (by omega)
    | exact AE rfl rfl rfl (by omega)
    | exact AF rfl rfl rfl (by omega)
    | exact EY rfl rfl rfl rfl (by omega) rfl
    | exact fq rfl rfl rfl rfl rfl (by omega) rfl
    | exact AG rfl rfl rfl (by omega))
  (eI:hO v u:=by first|(apply hO.agg;repeat' first|exact Norm.nil|apply Norm.cons)|(apply hO.e9;repeat' first|exact Norm.nil|apply Norm.cons)|exact hO.same)
  (h:a8 P n0 ops.toArray rest ⟨(d,u) :: env,heap,next,ad⟩ Q):a8 P n0 ops.toArray (o :: rest) ⟨env,heap,next,ad⟩ Q:=gS aj hd aL (by rw[<- eI.eq];exact hq) h
theorem xu {p:Prop} {d:Nat} (hq:AX env o.op=some p:=by rfl) (aj:bW env ops o.guard=some true:=by rfl) (hd:o.dst=some d:=by rfl) (aL:Nat.blt d ad=true:=by rfl)
  (ht:p->a8 P n0 ops.toArray rest ⟨(d,.lit (.bool true)) :: env,heap,next,ad⟩ Q) (hf:¬ p->a8 P n0 ops.toArray rest ⟨(d,.lit (.bool false)) :: env,heap,next,ad⟩ Q):a8 P n0 ops.toArray (o :: rest) ⟨env,heap,next,ad⟩ Q:=by
 by_cases aw:p
 ·exact gS aj hd aL ((AY (st:=⟨env,heap,next,ad⟩) hq).1 aw) (ht aw)
 ·exact gS aj hd aL ((AY (st:=⟨env,heap,next,ad⟩) hq).2 aw) (hf aw)
theorem xv {k:IntKind} {r:Int} {d:Nat} (hq:AZ env P o.op=some (k,r):=by rfl) (aj:bW env ops o.guard=some true:=by rfl) (hr:k.wrap r=r:=by first|(rw[IntKind.wrap_i64];omega)|(rw[IntKind.wrap_u64];omega)|(rw[IntKind.wrap_u8];omega))
  (hd:o.dst=some d:=by rfl) (aL:Nat.blt d ad=true:=by rfl) (h:a8 P n0 ops.toArray rest ⟨(d,.lit (.int k r)) :: env,heap,next,ad⟩ Q):a8 P n0 ops.toArray (o :: rest) ⟨env,heap,next,ad⟩ Q:=
 gS aj hd aL (by have:=KP (st:=⟨env,heap,next,ad⟩) (P:=P) (G:=[]) hq;rw[hr] at this;exact this) h
theorem xw {T:TypeId} {d:Nat} {cs ds:List V} (aa:o.op = .alloc T:=by rfl) (aj:bW env ops o.guard=some true:=by rfl) (hd:o.dst=some d:=by rfl) (aL:Nat.blt d ad=true:=by rfl) (hn0:Nat.ble n0 next=true:=by rfl) (bh:gR P T=some cs:=by rfl) (eI:Norm cs ds:=by repeat' first|exact Norm.nil|apply Norm.cons)
  (h:a8 P n0 ops.toArray rest ⟨(d,.ptr next 0 0 0) :: env,(next,some (.box T ds)) :: heap,next+1,ad⟩ Q):a8 P n0 ops.toArray (o :: rest) ⟨env,heap,next,ad⟩ Q:=by
 have e:=eI.eq
 subst e
 exact jI aj (Su (st:=⟨env,heap,next,ad⟩) aa hd aL hn0 bh) h
theorem xx {T:TypeId} {d:Nat} {x:Operand} {v:V} {cs ds:List V} (aa:o.op = .box T x:=by rfl) (aj:bW env ops o.guard=some true:=by rfl) (hd:o.dst=some d:=by rfl) (aL:Nat.blt d ad=true:=by rfl) (hn0:Nat.ble n0 next=true:=by rfl) (U:aI env x=some v:=by rfl) (hf:flat v=some cs:=by rfl) (eI:Norm cs ds:=by repeat' first|exact Norm.nil|apply Norm.cons)
  (h:a8 P n0 ops.toArray rest ⟨(d,.ptr next 0 0 0) :: env,(next,some (.box T ds)) :: heap,next+1,ad⟩ Q):a8 P n0 ops.toArray (o :: rest) ⟨env,heap,next,ad⟩ Q:=by
 have e:=eI.eq
 subst e
 exact jI aj (Sv (st:=⟨env,heap,next,ad⟩) aa hd aL hn0 U hf) h
theorem xy {T:TypeId} {x y:Operand} {id s j t:Nat} {cs vs ds:List V} {v:V} (aa:o.op = .store T x y:=by rfl) (aj:bW env ops o.guard=some true:=by rfl) (hd:o.dst=none:=by rfl) (U:aI env x=some (.ptr id 0 s j):=by rfl) (hh:bd heap id=some (.box t cs):=by rfl) (ai:aI env y=some v:=by rfl)
  (hf:flat v=some vs:=by rfl) (aV:dt P T=some vs.length:=by rfl) (aq:Nat.ble (j+vs.length) cs.length=true:=by rfl) (eI:Norm (setAt j vs cs) ds:=by repeat' first|exact Norm.nil|apply Norm.cons)
  (h:a8 P n0 ops.toArray rest ⟨env,(id,some (.box t ds)) :: heap,next,ad⟩ Q):a8 P n0 ops.toArray (o :: rest) ⟨env,heap,next,ad⟩ Q:=by
 have e:=eI.eq
 subst e
 exact jI aj (Kk (st:=⟨env,heap,next,ad⟩) aa hd U hh ai hf aV aq) h
theorem ar {f:FuncId} {xs:Array Operand} {ts:Array TypeId} {vs cc:List V} {r:V} {d:Nat} (hf:Fn P f cc r) (aa:o.op = .call { callee:=.value (.func f),args:=xs,argTypes:=ts }:=by rfl) (aj:bW env ops o.guard=some true:=by rfl) (hd:o.dst=some d:=by rfl) (aL:Nat.blt d ad=true:=by rfl)
  (U : gw env xs.toList = some vs := by rfl) (hb : kF.k2 0 vs = true := by rfl) (hw : dI vs cc := by ((repeat' (first | exact dI.nil | refine dI.cons ?_ ?_ | exact cZ.refl _ | exact cZ.nil | refine cZ.agg ?_ | refine cZ.b0 ?_)); first | done | fail "args")) (h : a8 P n0 ops.toArray rest ⟨(d, r) :: env, heap, next, ad⟩ Q) : a8 P n0 ops.toArray (o :: rest) ⟨env, heap, next, ad⟩ Q :=
 jI aj (KB (st:=⟨env,heap,next,ad⟩) aa nz U hb (KD hf hw)) (by rw[hd];exact h)
theorem KQ {f:FuncId} {xs:Array Operand} {ts:Array TypeId} {vs cc:List V} {b:Bool} {d:Nat} (hf:Fn P f cc (.lit (.bool b))) (aa:o.op = .call { callee:=.value (.func f),args:=xs,argTypes:=ts }:=by rfl) (aj:bW env ops o.guard=some true:=by rfl) (hd:o.dst=some d:=by rfl) (aL:Nat.blt d ad=true:=by rfl)
  (U : gw env xs.toList = some vs := by rfl) (hb : kF.k2 0 vs = true := by rfl) (hw : dI vs cc := by ((repeat' (first | exact dI.nil | refine dI.cons ?_ ?_ | exact cZ.refl _ | exact cZ.nil | refine cZ.agg ?_ | refine cZ.b0 ?_)); first | done | fail "args")) (ht : b = true -> a8 P n0 ops.toArray rest ⟨(d, .lit (.bool true)) :: env, heap, next, ad⟩ Q) (hff : b = false -> a8 P n0 ops.toArray rest ⟨(d, .lit (.bool false)) :: env, heap, next, ad⟩ Q) : a8 P n0 ops.toArray (o :: rest) ⟨env, heap, next, ad⟩ Q := by
 cases b
 ·exact ar hf aa aj hd aL U hb hw (hff rfl)
 ·exact ar hf aa aj hd aL U hb hw (ht rfl)
end
section
variable {P:Program} {n0:Nat} {st bG:ba}
theorem KR {env:List (Nat×V)} {t:Nat} {k:IntKind} {m n:Int} (h:cG env t=some (.lit (.int k m))) (hm:m=n):cG env t=some (.lit (.int k n)):=by rw[h,hm]
theorem du (hc:AU st.env bG.env:=by repeat'(first|exact True.intro|exact rfl|exact KR rfl (by first|rfl|omega|(dsimp only;omega))|refine And.intro ?_ ?_)) (hh:xi st.heap bG.heap:=by repeat'(first|exact True.intro|exact rfl|refine And.intro ?_ ?_))
  (hn:Nat.ble bG.next st.next=true:=by rfl) (hn0:Nat.ble n0 bG.next=true:=by rfl) (he:xj bG.next bG.env=true:=by rfl) (hb:xk bG.next bG.heap=true:=by rfl) (hnt:bG.ad=st.ad:=by rfl):cu P n0 st bG:=by
 have I:cu P n0 st { env:=bG.env,heap:=bG.heap,next:=st.next,ad:=bG.ad }:=SC rfl hnt hc hh
 have J:cu P n0 { env:=bG.env,heap:=bG.heap,next:=st.next,ad:=bG.ad } { env:=bG.env,heap:=bG.heap,next:=bG.next,ad:=bG.ad }:=SD bG.next hn0 hn he hb
 exact I.trans J
theorem b2 {X:Type} {c:Code} {Q:Exit->ba->Prop} (lT:X->ba) (tk:X->Prop) (qC:X->Nat) (dO:X) (U:tk dO) (af:cu P n0 st (lT dO))
  (round:∀ x,tk x->cq P n0 c (lT x) (qB (fun bG=>∃ oR,qC oR < qC x/\tk oR /\ cu P n0 bG (lT oR)) Q)):cq P n0 (.loop c) st Q:=
 SA (X:={x:X // tk x}) (fun x=>lT x.1) (fun x=>qC x.1) ⟨dO,U⟩ af (fun x=>Kt (round x.1 x.2) (fun e bG hq=>by
  cases e with
  | normal=>obtain ⟨oR,I,J,av⟩:=hq;exact⟨⟨oR,J⟩,I,av⟩
  | _=>exact hq))
theorem fG {Z:Type} {x y:Code} {Q:Exit->ba->Prop} (lT:Z->ba) (tk:Z->Prop) (h:cq P n0 x st (qB (fun bG=>∃ z,tk z/\cu P n0 bG (lT z)) Q)) (J:∀ z,tk z->cq P n0 y (lT z) Q):cq P n0 (.seq x y) st Q:=by
 refine iv (Kt h (fun e bG hq=>?_))
 cases e with
 | normal=>
  obtain ⟨z,bh,aq⟩:=hq
  exact lZ aq (J z bh)
 | _=>exact hq
theorem lc {next:ba->Prop} {Q:Exit->ba->Prop} (h:next st):qB next Q .normal st:=h
theorem A0 {next:ba->Prop} {Q:Exit->ba->Prop} (h:Q .ret st):qB next Q .ret st:=h
theorem A1 {next:ba->Prop} {Q:Exit->ba->Prop} {i:Nat} (h:Q (.exit i) st):qB next Q (.exit i) st:=h
theorem A2 {id:Nat} {Q:Exit->ba->Prop} (h:Q .normal st):rM id Q .normal st:=h
theorem A3 {id:Nat} {Q:Exit->ba->Prop} (h:Q .ret st):rM id Q .ret st:=h
theorem A4 {id:Nat} {Q:Exit->ba->Prop} (h:Q .normal st):rM id Q (.exit id) st:=by simp only[rM,Nat.beq_refl,cond_true];exact h
theorem A5 {id i:Nat} {Q:Exit->ba->Prop} (hn:Nat.beq i id=false) (h:Q (.exit i) st):rM id Q (.exit i) st:=by simp only[rM,hn,cond_false];exact h
theorem bt {fn:Func} {r fT v:V} {e:Exit} (he:e = .ret\/e = .normal:=by first|exact .inl rfl|exact .inr rfl) (hv:rS P st fn.results.toList=some v:=by rfl) (ap:gE st.heap v=some fT:=by rfl) (hr:fT = r):Ends P fn r e st:=⟨he,v,fT,hv,ap,by rw[hr];exact .refl _⟩
theorem SV {fn:Func} {r fT v:V} {e:Exit} (he:e = .ret\/e = .normal:=by first|exact .inl rfl|exact .inr rfl) (hv:rS P st fn.results.toList=some v:=by rfl) (ap:gE st.heap v=some fT:=by rfl) (hr:cZ fT r):Ends P fn r e st:=⟨he,v,fT,hv,ap,hr⟩
end
end
section
open Go.RowKit
def rV (gd:List Nat):List Edge->Nat
 | []=>0
 | e :: es=>bif Region.binds .any e then((2 ^ e.on) ||| gd.getD e.on 0) ||| rV gd es else rV gd es
def KS (gd:List Nat):List Oper->List Nat
 | []=>gd
 | o :: os=>KS (gd++[rV gd o.after.toList]) os
def rW (ops:List Oper):List Nat:=KS [] ops
def looks (ops:List Oper) (o:Oper):List Nat:=
  (o.op.operands.toList.filterMap fun | .tmp t=>some t|_=>none) ++
  (match o.guard with
   | some (g,_)=>match ops[g]? with
     | some SX=>match SX.dst with
       | some d=>[d]
       | none=>[]
     | none=>[]
   | none=>[])
def xz (gd:List Nat) (i t:Nat):Nat->List Oper->Bool
 | _,[]=>true
 | j,o :: os=>(match o.dst with|some d=>(bif Nat.beq d t then Nat.testBit (gd.getD i 0) j || Nat.testBit (gd.getD j 0) i else true)|none=>true) && xz gd i t (j+1) os
def SY:Op->Bool
 | .store ..=>true
 | .call { callee:=.builtin .append,.. }=>true
 | _=>false
def A6:Op->Bool
 | .store ..=>true
 | .call ..=>true
 | _=>false
def A7:List Oper->Bool
 | []=>true
 | o :: os=>(match o.dst with
  | some d=>os.all (fun fo=>match fo.dst with|some kH=>!Nat.beq kH d|none=>true)
  | none=>true) && A7 os
def A8 (ops:List Oper) (gd:List Nat):Nat->List Oper->Bool
 | _,[]=>true
 | i,o :: os=>Nat.beq (gd.getD i 0) (rV gd o.after.toList) && (o.after.toList.all (fun e=>!Region.binds .any e || Nat.blt e.on i) && ((looks ops o).all (fun t=>xz gd i t 0 ops) && A8 ops gd (i+1) os))
def xA (ops:List Oper):Bool:=A7 ops && A8 ops (rW ops) 0 ops
def A9 (gd:List Nat) (i:Nat) (p:Nat->Bool):Nat->List Oper->Bool
 | _,[]=>true
 | j,o :: os=>(!p j || (Nat.beq j i || (Nat.testBit (gd.getD i 0) j || Nat.testBit (gd.getD j 0) i))) && A9 gd i p (j+1) os
def kp (ops:List Oper) (W:Nat->Nat->Bool) (aA i id:Nat):Bool:=A9 (rW ops) i (fun j=>W j id) 0 ops && (Nat.blt id aA || Nat.testBit ((rW ops).getD i 0) (id - aA))
theorem u0 {ops:List Oper} {gd:List Nat}:∀ {os:List Oper} {i:Nat},A8 ops gd i os=true -> ∀ j o,os[j]? = some o ->
  gd.getD (i+j) 0=rV gd o.after.toList/\(∀ e ∈ o.after.toList,Region.binds .any e=true->e.on<i+j) /\ ∀ t ∈ looks ops o,xz gd (i+j) t 0 ops=true
 | [],i,_,j,o,h=>by simp at h
 | fo :: os,i,ag,j,o,h=>by
  simp only[A8,Bool.and_eq_true] at ag
  obtain ⟨I,J,av,bl⟩:=ag
  cases j with
  | zero=>
   simp only[List.getElem?_cons_zero,Option.some.injEq] at h
   subst h
   refine ⟨Nat.eq_of_beq_eq_true I,fun e he hb=>?_,fun t ht=>?_⟩
   ·rw[List.all_eq_true] at J
    have:=J e he
    rw[hb] at this
    simpa using this
   ·rw[List.all_eq_true] at av
    exact av t ht
  | succ j=>
   have:=u0 bl j o (by simpa using h)
   rwa [show i+1+j=i+(j+1) by omega] at this
theorem KT {gd:List Nat} {m t:Nat}:∀ {os:List Oper} {i:Nat},xz gd m t i os=true -> ∀ j o,os[j]? = some o->o.dst=some t->Nat.testBit (gd.getD m 0) (i+j)=true\/Nat.testBit (gd.getD (i+j) 0) m=true
 | [],i,_,j,o,h,_=>by simp at h
 | fo :: os,i,ag,j,o,h,hd=>by
  simp only[xz,Bool.and_eq_true] at ag
  cases j with
  | zero=>
   simp only[List.getElem?_cons_zero,Option.some.injEq] at h
   subst h
   have:=ag.1
   rw[hd] at this
   simpa using this
  | succ j=>
   have:=KT ag.2 j o (by simpa using h) hd
   rwa [show i+1+j=i+(j+1) by omega] at this
theorem KU {gd:List Nat} {i:Nat} {p:Nat->Bool}:∀ {os:List Oper} {k:Nat},A9 gd i p k os=true -> ∀ j o,os[j]? = some o->p (k+j)=true->k+j=i\/Nat.testBit (gd.getD i 0) (k+j)=true\/Nat.testBit (gd.getD (k+j) 0) i=true
 | [],k,_,j,o,h,_=>by simp at h
 | fo :: os,k,ag,j,o,h,hw=>by
  simp only[A9,Bool.and_eq_true] at ag
  cases j with
  | zero=>
   have:=ag.1
   rw[Nat.add_zero] at hw
   rw[hw] at this
   simpa[Nat.beq_eq] using this
  | succ j=>
   have:=KU ag.2 j o (by simpa using h) (by rw[show k+1+j=k+(j+1) by omega];exact hw)
   rwa [show k+1+j=k+(j+1) by omega] at this
theorem KV:∀ {os:List Oper},A7 os=true -> ∀ (i j:Nat) (o fo:Oper) (d:Nat),i<j->os[i]? = some o->os[j]? = some fo -> o.dst=some d->fo.dst≠some d
 | [],_,i,j,o,fo,d,_,h,_,_=>by simp at h
 | fO :: os,ag,i,j,o,fo,d,xc,h,eO,hd=>by
  simp only[A7,Bool.and_eq_true] at ag
  cases j with
  | zero=>omega
  | succ j=>
   cases i with
   | zero=>
    simp only[List.getElem?_cons_zero,Option.some.injEq] at h
    subst h
    have:=ag.1
    rw[hd] at this
    simp only[List.all_eq_true] at this
    have J:=this fo (List.mem_of_getElem? (by simpa using eO))
    intro he
    rw[he] at J
    simp at J
   | succ i=>exact KV ag.2 i j o fo d (by omega) (by simpa using h) (by simpa using eO) hd
theorem u1 {gd:List Nat}:∀ {es:List Edge} {j:Nat},Nat.testBit (rV gd es) j=true -> ∃ e ∈ es,Region.binds .any e=true/\(e.on=j\/Nat.testBit (gd.getD e.on 0) j=true)
 | [],j,h=>by simp[rV] at h
 | e :: es,j,h=>by
  simp only[rV] at h
  cases hb:Region.binds .any e with
  | false=>
   rw[hb] at h
   obtain ⟨lo,I,J⟩:=u1 (es:=es) h
   exact⟨lo,List.mem_cons_of_mem _ I,J⟩
  | true=>
   rw[hb] at h
   simp only[cond_true,Nat.testBit_or,Bool.or_eq_true] at h
   rcases h with(h|h)|h
   ·refine ⟨e,List.mem_cons_self,hb,.inl ?_⟩
    rw[Nat.testBit_two_pow] at h
    simpa using h
   ·exact⟨e,List.mem_cons_self,hb,.inr h⟩
   ·obtain ⟨lo,I,J⟩:=u1 (es:=es) h
    exact⟨lo,List.mem_cons_of_mem _ I,J⟩
structure j2 where
 v:V
 H:List (Nat×Option aY)
def mA (d:Option Tmp) (v:V) (env:List (Nat×V)):List (Nat×V):=
 match d with
 | some d=>(d,v) :: env
 | none=>env
def kI:List (Nat×Option aY)->Nat->Bool
 | [],_=>false
 | (t,_) :: r,id=>Nat.beq t id || kI r id
theorem SZ {H h:List (Nat×Option aY)} {id:Nat}:bd (H++h) id=cond (kI H id) (bd H id) (bd h id):=by
 induction H with
 | nil=>rfl
 | cons x r cf=>
  obtain ⟨t,B⟩:=x
  show cond (Nat.beq t id) B (bd (r++h) id)=cond (Nat.beq t id || kI r id) (cond (Nat.beq t id) B (bd r id)) (bd h id)
  rw[cf]
  cases Nat.beq t id <;> rfl
theorem u2 {H h:List (Nat×Option aY)} {id:Nat}:bd (H++h) id=if kI H id=true then bd H id else bd h id:=by
 rw[SZ]
 generalize kI H id=b
 cases b <;> rfl
def jb:List (Oper×j2)->Nat->(Nat->Bool)->List (Nat×V)->List (Nat×V)
 | [],_,_,e=>e
 | (o,s) :: r,i,p,e=>jb r (i+1) p (if p i=true then mA o.dst s.v e else e)
def jc:List (Oper×j2)->Nat->(Nat->Bool)->List (Nat×Option aY)->List (Nat×Option aY)
 | [],_,_,h=>h
 | (o,s) :: r,i,p,h=>jc r (i+1) p (if p i=true then s.H++h else h)
theorem u3 {d:Option Tmp} {v:V} {e:List (Nat×V)} {t:Nat}:cG (mA d v e) t=if d=some t then some v else cG e t:=by
 cases d with
 | none=>simp[mA]
 | some d=>
  simp only[mA,cG,Option.some.injEq]
  by_cases h:d=t
  ·subst h;simp
  ·rw[if_neg h]
   have hb:Nat.beq d t=false:=by
    cases hb:Nat.beq d t
    ·rfl
    ·exact absurd (Nat.eq_of_beq_eq_true hb) h
   rw[hb];rfl
theorem xB {t:Nat}:∀ {z:List (Oper×j2)} {i:Nat} {p q:Nat->Bool} {aH aN:List (Nat×V)},(∀ j o s,z[j]? = some (o,s)->o.dst=some t->p (i+j)=q (i+j))->cG aH t=cG aN t->cG (jb z i p aH) t=cG (jb z i q aN) t
 | [],i,p,q,aH,aN,_,h=>h
 | (o,s) :: r,i,p,q,aH,aN,aw,h=>by
  simp only[jb]
  refine xB (fun j fo dv ah hd=>?_) ?_
  ·have:=aw (j+1) fo dv jD hd
   rwa [show i+(j+1)=i+1+j by omega] at this
  ·by_cases hd:o.dst=some t
   ·have:=aw 0 o s (by simp) hd
    simp only[Nat.add_zero] at this
    rw[this]
    split
    ·rw[u3,u3,if_pos hd,if_pos hd]
    ·exact h
   ·have e:∀ (b:Bool) (e:List (Nat×V)),cG (if b=true then mA o.dst s.v e else e) t=cG e t:=fun b e=>by
     cases b
     ·rfl
     ·simp only[if_true];rw[u3,if_neg hd]
    rw[e,e];exact h
theorem xC {id:Nat}:∀ {z:List (Oper×j2)} {i:Nat} {p q:Nat->Bool} {aH aN:List (Nat×Option aY)},(∀ j o s,z[j]? = some (o,s)->kI s.H id=true->p (i+j)=q (i+j))->bd aH id=bd aN id->bd (jc z i p aH) id=bd (jc z i q aN) id
 | [],i,p,q,aH,aN,_,h=>h
 | (o,s) :: r,i,p,q,aH,aN,aw,h=>by
  simp only[jc]
  refine xC (fun j fo dv ah hd=>?_) ?_
  ·have:=aw (j+1) fo dv jD hd
   rwa [show i+(j+1)=i+1+j by omega] at this
  ·by_cases hd:kI s.H id=true
   ·have:=aw 0 o s (by simp) hd
    simp only[Nat.add_zero] at this
    rw[this]
    split
    ·rw[u2,u2,if_pos hd,if_pos hd]
    ·exact h
   ·have e:∀ (b:Bool) (e:List (Nat×Option aY)),bd (if b=true then s.H++e else e) id=bd e id:=fun b e=>by
     cases b
     ·rfl
     ·simp only[if_true];rw[u2,if_neg hd]
    rw[e,e];exact h
theorem KW {t k:Nat} {ok:Oper} {u4:j2}:∀ {z:List (Oper×j2)} {i:Nat} {p q:Nat->Bool} {e:List (Nat×V)},z[k]? = some (ok,u4)->(∀ j,j≠i+k->q j=p j)->q (i+k)=true->p (i+k)=false ->
  (∀ j o s,z[j]? = some (o,s)->k<j->ok.dst=some t->o.dst≠some t)->cG (jb z i q e) t=cG (mA ok.dst u4.v (jb z i p e)) t
 | [],i,p,q,e,bh,_,_,_,_=>by simp at bh
 | (o,s) :: r,i,p,q,e,bh,hq,qF,lh,hd=>by
  simp only[jb]
  cases k with
  | zero=>
   simp only[List.getElem?_cons_zero,Option.some.injEq,Prod.mk.injEq] at bh
   obtain ⟨rfl,rfl⟩:=bh
   simp only[Nat.add_zero] at qF lh
   rw[qF,lh]
   simp only[if_true,Bool.false_eq_true,if_false]
   rw[u3]
   by_cases ht:o.dst=some t
   ·rw[if_pos ht]
    have I:cG (jb r (i+1) q (mA o.dst s.v e)) t=cG (jb r (i+1) (fun _=>false) (mA o.dst s.v e)) t:=xB (fun j fo dv ah qG=>absurd qG (hd (j+1) fo dv jD (by omega) ht)) rfl
    have J:∀ (z:List (Oper×j2)) (i:Nat) (e:List (Nat×V)),jb z i (fun _=>false) e=e:=by
     intro z
     induction z with
     | nil=>intro i e;rfl
     | cons x r cf=>intro i e;obtain ⟨o,s⟩:=x;simp only[jb];exact cf _ _
    rw[I,J,u3,if_pos ht]
   ·rw[if_neg ht]
    exact xB (fun j fo dv ah qG=>hq _ (by omega)) (by rw[u3,if_neg ht])
  | succ k=>
   rw[show i+(k+1)=i+1+k by omega] at hq qF lh
   rw[hq i (by omega)]
   exact KW (by simpa using bh) hq qF lh (fun j fo dv ah Ba=>hd (j+1) fo dv jD (by omega))
theorem Bb:∀ (z:List (Oper×j2)) (i:Nat) (p:Nat->Bool) (e:List (Nat×Option aY)),(∀ j,p (i+j)=false)->jc z i p e=e
 | [],i,p,e,_=>rfl
 | (o,s) :: r,i,p,e,h=>by
  simp only[jc]
  have af:=h 0
  simp only[Nat.add_zero] at af
  rw[af]
  simp only[Bool.false_eq_true,if_false]
  exact Bb r (i+1) p e (fun j=>by have:=h (j+1);rwa [show i+(j+1)=i+1+j by omega] at this)
theorem Fz:∀ (z:List (Oper×j2)) (i:Nat) (p:Nat->Bool) (e:List (Nat×V)),(∀ j,p (i+j)=false)->jb z i p e=e
 | [],i,p,e,_=>rfl
 | (o,s) :: r,i,p,e,h=>by
  simp only[jb]
  have af:=h 0
  simp only[Nat.add_zero] at af
  rw[af]
  simp only[Bool.false_eq_true,if_false]
  exact Fz r (i+1) p e (fun j=>by have:=h (j+1);rwa [show i+(j+1)=i+1+j by omega] at this)
theorem KX {id k:Nat} {ok:Oper} {u4:j2}:∀ {z:List (Oper×j2)} {i:Nat} {p q:Nat->Bool} {e:List (Nat×Option aY)},z[k]? = some (ok,u4)->(∀ j,j≠i+k->q j=p j)->q (i+k)=true->p (i+k)=false ->
  (∀ j o s,z[j]? = some (o,s)->k<j->kI u4.H id=true->kI s.H id=true->p (i+j)=false)->bd (jc z i q e) id=bd (u4.H++jc z i p e) id
 | [],i,p,q,e,bh,_,_,_,_=>by simp at bh
 | (o,s) :: r,i,p,q,e,bh,hq,qF,lh,hd=>by
  simp only[jc]
  cases k with
  | zero=>
   simp only[List.getElem?_cons_zero,Option.some.injEq,Prod.mk.injEq] at bh
   obtain ⟨rfl,rfl⟩:=bh
   simp only[Nat.add_zero] at qF lh
   rw[qF,lh]
   simp only[if_true,Bool.false_eq_true,if_false]
   rw[u2]
   by_cases ht:kI s.H id=true
   ·rw[if_pos ht]
    have I:bd (jc r (i+1) q (s.H++e)) id=bd (jc r (i+1) (fun _=>false) (s.H++e)) id:=xC (fun j fo dv ah qG=>by
     rw[hq _ (by omega)]
     have:=hd (j+1) fo dv jD (by omega) ht qG
     rwa [show i+(j+1)=i+1+j by omega] at this) rfl
    rw[I,Bb _ _ _ _ (fun _=>rfl),u2,if_pos ht]
   ·rw[if_neg ht]
    exact xC (fun j fo dv ah qG=>hq _ (by omega)) (by rw[u2,if_neg ht])
  | succ k=>
   rw[show i+(k+1)=i+1+k by omega] at hq qF lh
   rw[hq i (by omega)]
   exact KX (by simpa using bh) hq qF lh (fun j fo dv ah Ba I J=>by
    have:=hd (j+1) fo dv jD (by omega) I J
    rwa [show i+(j+1)=i+1+j by omega] at this)
section
variable {P:Program} {N ad aA:Nat} {ops:List Oper} {W:Nat->Nat->Bool}
def pD (P:Program) (ops:Array Oper) (o:Oper) (K:Act->World->Prop) (a:Act) (w:World):Prop:=
 if Region.wanted o (yielded ops a.tmps)=true then o.wp P a w K (fun _ _ _=>False) else K (a.put o.dst undef) w
def xD (P:Program) (N ad mT:Nat) (ops:List Oper) (o:Oper) (E:List (Nat×V)) (Hn:List (Nat×Option aY)) (s:j2):Prop:=
 ∀ env heap,(∀ t x,cG E t=some x->cG env t=some x)->(∀ id B,bd Hn id=some B->bd heap id=some B) ->
  ∀ F M w0 ρ a w,en F M ρ heap N w0 w->eR ρ (bC F ρ heap) w ad env a->ρ mT=none ->
   pD P ops.toArray o (fun gQ aE=>∃ bm,en F M bm (s.H++heap) N w0 aE /\ eR bm (bC F bm (s.H++heap)) aE ad (mA o.dst s.v env) gQ /\ (∀ id,id<N->id≠mT->bm id=ρ id)) a w
def Bc (P:Program) (N ad aA:Nat) (ops:List Oper) (W:Nat->Nat->Bool) (i:Nat) (o:Oper) (env:List (Nat×V)) (heap:List (Nat×Option aY)) (s:j2):Prop:=
 ∃ E Hn,(∀ t x,cG E t=some x->t ∈ looks ops o/\cG env t=some x)/\(∀ id B,bd Hn id=some B->kp ops W aA i id=true/\bd heap id=some B) /\
  (∀ id,kI s.H id=true->id=aA+i\/(W i id=true/\A6 o.op=true/\kp ops W aA i id=true))/\xD P N ad (aA+i) ops o E Hn s
inductive oT (P:Program) (N ad aA:Nat) (ops:List Oper) (W:Nat->Nat->Bool):Nat->List Oper->List (Nat×V)->List (Nat×Option aY)->List j2->List (Nat×V)->List (Nat×Option aY)->Prop
 | nil (i:Nat) (env:List (Nat×V)) (heap:List (Nat×Option aY)):oT P N ad aA ops W i [] env heap [] env heap
 | cons {i:Nat} {o:Oper} {rest:List Oper} {env:List (Nat×V)} {heap:List (Nat×Option aY)} {s:j2} {fp:List j2} {js:List (Nat×V)} {ch:List (Nat×Option aY)}
   (h:Bc P N ad aA ops W i o env heap s) (hr:oT P N ad aA ops W (i+1) rest (mA o.dst s.v env) (s.H++heap) fp js ch):oT P N ad aA ops W i (o :: rest) env heap (s :: fp) js ch
theorem pE {m n:Nat} (h:m<n):Nat.blt m n=true:=Nat.ble_eq_true_of_le h
theorem u5 {m n:Nat} (h:n<=m):Nat.blt m n=false:=by
 cases hb:Nat.blt m n with
 | false=>rfl
 | true=>have:=Nat.le_of_ble_eq_true hb;omega
theorem oT.len {i:Nat} {rest:List Oper} {env:List (Nat×V)} {heap:List (Nat×Option aY)} {fp:List j2} {js:List (Nat×V)} {ch:List (Nat×Option aY)} (h:oT P N ad aA ops W i rest env heap fp js ch):fp.length=rest.length:=by
 induction h with
 | nil=>rfl
 | cons h hr cf=>simp[cf]
theorem oT.get {i:Nat} {rest:List Oper} {env:List (Nat×V)} {heap:List (Nat×Option aY)} {fp:List j2} {js:List (Nat×V)} {ch:List (Nat×Option aY)} (h:oT P N ad aA ops W i rest env heap fp js ch) :
  ∀ j o s,(rest.zip fp)[j]? = some (o,s)->Bc P N ad aA ops W (i+j) o (jb (rest.zip fp) i (fun x=>Nat.blt x (i+j)) env) (jc (rest.zip fp) i (fun x=>Nat.blt x (i+j)) heap) s:=by
 induction h with
 | nil=>intro j o s h;simp at h
 | @cons i o rest env heap s fp js ch h hr cf=>
  intro j fo dv ah
  cases j with
  | zero=>
   simp only[List.zip_cons_cons,List.getElem?_cons_zero,Option.some.injEq,Prod.mk.injEq] at ah
   obtain ⟨rfl,rfl⟩:=ah
   rw[Fz _ _ (fun x=>Nat.blt x (i+0)) _ (fun j=>u5 (by omega)),Bb _ _ (fun x=>Nat.blt x (i+0)) _ (fun j=>u5 (by omega))]
   exact h
  | succ j=>
   have:=cf j fo dv jD
   rw[show i+1+j=i+(j+1) by omega] at this
   simp only[List.zip_cons_cons,jb,jc]
   rw[if_pos (pE (by omega)),if_pos (pE (by omega))]
   exact this
theorem oT.fin {i:Nat} {rest:List Oper} {env:List (Nat×V)} {heap:List (Nat×Option aY)} {fp:List j2} {js:List (Nat×V)} {ch:List (Nat×Option aY)} (h:oT P N ad aA ops W i rest env heap fp js ch) :
  js=jb (rest.zip fp) i (fun x=>Nat.blt x (i+rest.length)) env/\ch=jc (rest.zip fp) i (fun x=>Nat.blt x (i+rest.length)) heap:=by
 induction h with
 | nil=>exact⟨rfl,rfl⟩
 | @cons i o rest env heap s fp js ch h hr cf=>
  simp only[List.zip_cons_cons,jb,jc,List.length_cons]
  rw[if_pos (pE (by omega)),if_pos (pE (by omega))]
  rw[show i+(rest.length+1)=i+1+rest.length by omega]
  exact cf
theorem en.same {F:Nat->Prop} {M:Nat->Prop} {ρ:Nat->Option Value} {heap cS:List (Nat×Option aY)} {next:Nat} {w0 w:World} (h:en F M ρ heap next w0 w) (he:∀ id,bd cS id=bd heap id):en F M ρ cS next w0 w /\ ∀ b,bC F ρ heap b ↔ bC F ρ cS b:=by
 have ap:∀ b,bC F ρ heap b ↔ bC F ρ cS b:=fun b=>⟨fun h=>⟨h.1,fun id B u aB=>h.2 id B u (by rw[<- he];exact aB)⟩,fun h=>⟨h.1,fun id B u aB=>h.2 id B u (by rw[he];exact aB)⟩⟩
 refine ⟨⟨⟨h.below,h.fC,h.sup,fun id dQ B bT u ev b aB cJ=>h.inj id dQ B bT u ev b (by rw[<- he];exact aB) (by rw[<- he];exact cJ),fun id B aB=>?_⟩,h.ch⟩,ap⟩
 exact(h.dB id B (by rw[<- he];exact aB)).mono (dX.refl _ _) (fun b h _=>(ap b).1 h) (fun _ _ h=>h) (fun _ _ _ _ _ _=>rfl)
theorem S0 {i:Nat} {o:Oper} {Q:Exit->Act->World->Prop} {K:Act->World->Prop} {a:Act} {w:World} {ops:Array Oper} (hi:ops[i]? = some o) (h:pD P ops o K a w):wpOp P ops Q i K a w:=by
 unfold wpOp
 simp only[hi]
 unfold pD at h
 split
 ·rename_i hw
  rw[if_pos hw] at h
  exact .inl (E4 (fun _ _ h=>h) (fun _ _ _ h=>h.elim) h)
 ·rename_i hw
  rw[if_neg hw] at h
  exact h
theorem S1 {ops:Array Oper} {o:Oper} {K rI:Act->World->Prop} {a:Act} {w:World} (h:∀ a w,K a w->rI a w) (hh:pD P ops o K a w):pD P ops o rI a w:=by
 unfold pD at *
 split
 ·rename_i hw
  rw[if_pos hw] at hh
  exact rH h hh
 ·rename_i hw
  rw[if_neg hw] at hh
  exact h _ _ hh
theorem S2 {n0:Nat} {tl:List (Nat×V)} {qH:List (Nat×Option aY)} {fp:List j2} {js:List (Nat×V)} {ch:List (Nat×Option aY)} (bu:xA ops=true) (aw:oT P (aA+ops.length) ad aA ops W 0 ops tl qH fp js ch) (hn0:n0<=aA)
  {F:Nat->Prop} {M:Nat->Prop} {w0:World} {ρ0:Nat->Option Value}:∀ (k0:Nat) (us:List Nat) (fa:Array Bool) (a:Act) (w:World) (ρ:Nat->Option Value),us.length=k0->us.Nodup->(∀ i,i ∈ us ↔ (i<ops.length/\fa.getD i false=false))->fa.size=ops.length ->
   (∀ i j,fa.getD i false=true->Nat.testBit ((rW ops).getD i 0) j=true->fa.getD j false=true) ->
   en F M ρ (jc (ops.zip fp) 0 (fun i=>fa.getD i false) qH) (aA+ops.length) w0 w->eR ρ (bC F ρ (jc (ops.zip fp) 0 (fun i=>fa.getD i false) qH)) w ad (jb (ops.zip fp) 0 (fun i=>fa.getD i false) tl) a ->
   (∀ id,id<n0->ρ id=ρ0 id)->(∀ i,i<ops.length->fa.getD i false=false->ρ (aA+i)=none) ->
   wpAny P .any ops.toArray (lq n0 F M w0 ρ0 (AN fun st=>st=⟨js,ch,aA+ops.length,ad⟩)) k0 fa a w:=by
 simp only[xA,Bool.and_eq_true] at bu
 obtain ⟨S3,bu⟩:=bu
 have hlen:=aw.len
 have mU:=aw.get
 obtain ⟨S4,S5⟩:=aw.fin
 have bh:∀ i o,ops[i]? = some o -> ∃ s,(ops.zip fp)[i]? = some (o,s):=fun i o h=>by
  have cj:=(List.getElem?_eq_some_iff.1 h).1
  refine ⟨fp[i]'(by omega),?_⟩
  rw[List.getElem?_zip_eq_some]
  exact⟨h,List.getElem?_eq_getElem _⟩
 have lP:∀ j o s,(ops.zip fp)[j]? = some (o,s)->ops[j]? = some o:=fun j o s h=>(List.getElem?_zip_eq_some.1 h).1
 have S6:∀ n i,i<n -> ∀ o,ops[i]? = some o -> ∀ j,Nat.testBit ((rW ops).getD i 0) j=true->j<i:=by
  intro n
  induction n with
  | zero=>intro i h;omega
  | succ n tm=>
   intro i eT o aa j ah
   obtain ⟨aT,a1,bz⟩:=u0 bu i o aa
   rw[Nat.zero_add] at aT a1
   rw[aT] at ah
   obtain ⟨e,he,hb,lp⟩:=u1 ah
   have:=a1 e he hb
   rcases lp with rfl|lp
   ·exact this
   ·have eG:=(List.getElem?_eq_some_iff.1 aa).1
    have:=tm e.on (by omega) ops[e.on] (List.getElem?_eq_getElem (by omega)) j lp
    omega
 have KY:∀ (us:List Nat) (fa:Array Bool) (a:Act) (w:World) (ρ:Nat->Option Value),(∀ i,i ∈ us ↔ (i<ops.length/\fa.getD i false=false))->us=[] ->
   en F M ρ (jc (ops.zip fp) 0 (fun i=>fa.getD i false) qH) (aA+ops.length) w0 w->eR ρ (bC F ρ (jc (ops.zip fp) 0 (fun i=>fa.getD i false) qH)) w ad (jb (ops.zip fp) 0 (fun i=>fa.getD i false) tl) a ->
   (∀ id,id<n0->ρ id=ρ0 id)->lq n0 F M w0 ρ0 (AN fun st=>st=⟨js,ch,aA+ops.length,ad⟩) .normal a w:=by
  intro us fa a w ρ mm pB ak ay e7
  have rX:∀ i,i<ops.length->fa.getD i false=true:=fun i hi=>by
   cases hb:fa.getD i false with
   | true=>rfl
   | false=>
    have:=(mm i).2 ⟨hi,hb⟩
    rw[pB] at this;cases this
  have aH:∀ t,cG js t=cG (jb (ops.zip fp) 0 (fun i=>fa.getD i false) tl) t:=fun t=>by
   rw[S4]
   refine xB (fun j o s ah _=>?_) rfl
   have cj:=(List.getElem?_eq_some_iff.1 (lP _ _ _ ah)).1
   rw[Nat.zero_add,Nat.zero_add,rX j cj,pE cj]
  have aN:∀ id,bd ch id=bd (jc (ops.zip fp) 0 (fun i=>fa.getD i false) qH) id:=fun id=>by
   rw[S5]
   refine xC (fun j o s ah _=>?_) rfl
   have cj:=(List.getElem?_eq_some_iff.1 (lP _ _ _ ah)).1
   rw[Nat.zero_add,Nat.zero_add,rX j cj,pE cj]
  obtain ⟨g1,g2⟩:=ak.same aN
  exact⟨ρ,_,⟨rfl,rfl⟩,g1,⟨ay.size,ay.defers,fun t v hv=>by rw[aH] at hv;exact(ay.slot t v hv).mono (dX.refl _ _) (fun b h _=>(g2 b).1 h) (fun _ _ h=>h)⟩,e7⟩
 intro k0
 induction k0 with
 | zero=>
  intro us fa a w ρ mf wL mm dZ u6 ak ay e7 pc
  have pB:us=[]:=List.eq_nil_of_length_eq_zero mf
  refine ⟨?_,KY us fa a w ρ mm pB ak ay e7⟩
  cases hr:Region.ready .any ops.toArray fa with
  | nil=>rfl
  | cons i r=>
   exfalso
   have hm:i ∈ Region.ready .any ops.toArray fa:=by rw[hr];exact List.mem_cons_self
   rw[mem_ready] at hm
   obtain ⟨I,o,J,_⟩:=hm
   have cj:i<ops.length:=(List.getElem?_eq_some_iff.1 (by simpa using J)).1
   have:i ∈ us:=(mm i).2 ⟨cj,by rw[Array.getD_eq_getD_getElem?] at I ⊢;rw[Array.getElem?_eq_getElem (by omega)] at I ⊢;exact I⟩
   rw[pB] at this;cases this
 | succ k0 cf=>
  intro us fa a w ρ mf wL mm dZ u6 ak ay e7 pc
  have tn:∀ i,i<ops.length->fa.getD i true=fa.getD i false:=fun i hi=>by
   rw[Array.getD_eq_getD_getElem?,Array.getD_eq_getD_getElem?,Array.getElem?_eq_getElem (by omega)];rfl
  refine ⟨fun hr=>?_,fun i hi=>?_⟩
  ·
   have rX:∀ n i,i<n->i<ops.length->fa.getD i false=true:=by
    intro n
    induction n with
    | zero=>intro i h;omega
    | succ n tm=>
     intro i eT ou
     cases hb:fa.getD i false with
     | true=>rfl
     | false=>
      exfalso
      have:i ∈ Region.ready .any ops.toArray fa:=by
       rw[mem_ready]
       refine ⟨by rw[tn i ou];exact hb,ops[i],by simp[ou],fun e he S7=>?_⟩
       have:=(u0 bu i ops[i] (List.getElem?_eq_getElem ou)).2.1 e (by simpa using he) S7
       exact tm e.on (by omega) (by omega)
      rw[hr] at this;cases this
   have pB:us=[]:=List.eq_nil_iff_forall_not_mem.2 (fun i hi=>by
    have:=(mm i).1 hi
    rw[rX (i+1) i (by omega) this.1] at this
    exact Bool.noConfusion this.2)
   exact KY us fa a w ρ mm pB ak ay e7
  ·rw[mem_ready] at hi
   obtain ⟨I,o,J,av⟩:=hi
   have J:ops[i]? = some o:=by simpa using J
   have cj:i<ops.length:=(List.getElem?_eq_some_iff.1 J).1
   rw[tn i cj] at I
   obtain ⟨s,ap⟩:=bh i o J
   obtain ⟨E,Hn,g1,g2,g3,g4⟩:=mU i o s ap
   rw[Nat.zero_add] at g1 g2 g3 g4
   obtain ⟨fO,CT,KZ⟩:=u0 bu i o J
   rw[Nat.zero_add] at fO CT KZ
   have Bd:∀ j,Nat.testBit ((rW ops).getD i 0) j=true->fa.getD j false=true/\j<i:=by
    have rX:∀ n i,i<n -> ∀ o,ops[i]? = some o -> ∀ j,Nat.testBit ((rW ops).getD i 0) j=true->j<i:=by
     intro n
     induction n with
     | zero=>intro i h;omega
     | succ n tm=>
      intro i eT o aa j ah
      obtain ⟨aT,a1,bz⟩:=u0 bu i o aa
      rw[Nat.zero_add] at aT a1
      rw[aT] at ah
      obtain ⟨e,he,hb,lp⟩:=u1 ah
      have:=a1 e he hb
      rcases lp with rfl|lp
      ·exact this
      ·have eG:=(List.getElem?_eq_some_iff.1 aa).1
       have:=tm e.on (by omega) ops[e.on] (List.getElem?_eq_getElem (by omega)) j lp
       omega
    intro j ah
    refine ⟨?_,rX (i+1) i (by omega) o J j ah⟩
    rw[fO] at ah
    obtain ⟨e,he,hb,lp⟩:=u1 ah
    have:=av e (by simpa using he) hb
    rcases lp with rfl|lp
    ·exact this
    ·exact u6 _ _ this lp
   refine S0 (by simpa using J) ?_
   have K0:∀ id,kp ops W aA i id=true -> ∀ j fo dv,(ops.zip fp)[j]? = some (fo,dv)->kI dv.H id=true->Nat.blt j i=fa.getD j false/\(j=i\/Nat.blt j i=true\/fa.getD j false=false):=by
    intro id hv j fo dv ah eT
    obtain ⟨S8,S9,_,_,iN,_⟩:=mU j fo dv ah
    rw[Nat.zero_add] at iN
    simp only[kp,Bool.and_eq_true,Bool.or_eq_true,Bool.not_eq_true'] at hv
    obtain ⟨v1,v2⟩:=hv
    by_cases lV:j=i
    ·subst lV
     exact⟨by rw[I];exact u5 (Nat.le_refl _),.inl rfl⟩
    rcases iN id eT with rfl | ⟨cy,cR,w3⟩
    ·rcases v2 with v2|v2
     ·have:=Nat.le_of_ble_eq_true v2
      omega
     ·rw[Nat.add_sub_cancel_left] at v2
      obtain ⟨m1,m2⟩:=Bd j v2
      exact⟨by rw[m1,pE m2],.inr (.inl (pE m2))⟩
    ·rcases KU v1 j fo (lP _ _ _ ah) (by rw[Nat.zero_add];exact cy) with aK|aK|aK
     ·exact absurd (by omega) lV
     ·rw[Nat.zero_add] at aK
      obtain ⟨m1,m2⟩:=Bd j aK
      exact⟨by rw[m1,pE m2],.inr (.inl (pE m2))⟩
     ·rw[Nat.zero_add] at aK
      have sm:=(List.getElem?_eq_some_iff.1 (lP _ _ _ ah)).1
      have lJ:fa.getD j false=false:=by
       cases hb:fa.getD j false with
       | false=>rfl
       | true=>rw[u6 j i hb aK] at I;cases I
      have XA:¬ j<i:=by
       intro KO
       have rX:∀ n i,i<n -> ∀ o,ops[i]? = some o -> ∀ j,Nat.testBit ((rW ops).getD i 0) j=true->j<i:=by
        intro n
        induction n with
        | zero=>intro i h;omega
        | succ n tm=>
         intro i eT o aa j ah
         obtain ⟨aT,a1,bz⟩:=u0 bu i o aa
         rw[Nat.zero_add] at aT a1
         rw[aT] at ah
         obtain ⟨e,he,hb,lp⟩:=u1 ah
         have:=a1 e he hb
         rcases lp with rfl|lp
         ·exact this
         ·have eG:=(List.getElem?_eq_some_iff.1 aa).1
          have:=tm e.on (by omega) ops[e.on] (List.getElem?_eq_getElem (by omega)) j lp
          omega
       have:=rX (j+1) j (by omega) fo (lP _ _ _ ah) i aK
       omega
      exact⟨by rw[lJ];exact u5 (by omega),.inr (.inr lJ)⟩
   have Ta:∀ t x,cG E t=some x->cG (jb (ops.zip fp) 0 (fun i=>fa.getD i false) tl) t=some x:=by
    intro t x ht
    obtain ⟨bL,gT⟩:=g1 t x ht
    rw[<- gT]
    refine xB (fun j fo dv ah hd=>?_) rfl
    have:=KT (KZ t bL) j fo (lP _ _ _ ah) hd
    rw[Nat.zero_add] at this ⊢
    rcases this with this|this
    ·obtain ⟨m1,m2⟩:=Bd j this
     simp[m1,m2]
    ·have KO:=S6 (j+1) j (by omega) fo (lP _ _ _ ah) i this
     have lJ:fa.getD j false=false:=by
      cases hb:fa.getD j false with
      | false=>rfl
      | true=>rw[u6 j i hb this] at I;cases I
     rw[lJ]
     first|exact u5 (by omega)|exact(u5 (by omega)).symm
   have xE:∀ id B,bd Hn id=some B->bd (jc (ops.zip fp) 0 (fun i=>fa.getD i false) qH) id=some B:=by
    intro id B aB
    obtain ⟨bL,gT⟩:=g2 id B aB
    rw[<- gT]
    refine xC (fun j fo dv ah hd=>?_) rfl
    rw[Nat.zero_add]
    exact(K0 id bL j fo dv ah hd).1.symm
   refine S1 ?_ (g4 _ _ Ta xE F M w0 ρ a w ak ay (pc i cj I))
   rintro gQ aE ⟨bm,aT,a1,bz⟩
   have ml:∀ j,(fa.setIfInBounds i true).getD j false=if j=i then true else fa.getD j false:=fun j=>by
    by_cases lV:j=i
    ·subst lV
     rw[if_pos rfl,Array.getD_eq_getD_getElem?,Array.getElem?_setIfInBounds_self_of_lt (by omega)];rfl
    ·rw[if_neg lV,getD_set_ne false (Ne.symm lV)]
   have Tb:∀ t,cG (jb (ops.zip fp) 0 (fun j=>(fa.setIfInBounds i true).getD j false) tl) t=cG (mA o.dst s.v (jb (ops.zip fp) 0 (fun j=>fa.getD j false) tl)) t:=fun t=>
    KW ap (fun j ah=>by rw[Nat.zero_add] at ah;rw[ml,if_neg ah]) (by rw[Nat.zero_add,ml,if_pos rfl]) (by rw[Nat.zero_add];exact I) (fun j fo dv ah Ba hd=>KV S3 i j o fo t Ba J (lP _ _ _ ah) hd)
   have Tc:∀ id,bd (jc (ops.zip fp) 0 (fun j=>(fa.setIfInBounds i true).getD j false) qH) id=bd (s.H++jc (ops.zip fp) 0 (fun j=>fa.getD j false) qH) id:=fun id=>
    KX ap (fun j ah=>by rw[Nat.zero_add] at ah;rw[ml,if_neg ah]) (by rw[Nat.zero_add,ml,if_pos rfl]) (by rw[Nat.zero_add];exact I) (fun j fo dv ah Ba eT K1=>by
     rw[Nat.zero_add]
     rcases g3 id eT with rfl | ⟨cy,cR,w3⟩
     ·
      cases hb:fa.getD j false with
      | false=>rfl
      | true=>
       exfalso
       obtain ⟨S8,S9,_,_,iN,_⟩:=mU j fo dv ah
       rw[Nat.zero_add] at iN
       rcases iN _ K1 with e | ⟨ek,fv,fi⟩
       ·omega
       ·simp only[kp,Bool.and_eq_true,Bool.or_eq_true] at fi
        rcases fi.2 with fi|fi
        ·have:=Nat.le_of_ble_eq_true fi;omega
        ·rw[Nat.add_sub_cancel_left] at fi
         rw[u6 j i hb fi] at I;cases I
     ·rcases (K0 id w3 j fo dv ah K1).2 with e|e|e
      ·omega
      ·have:=Nat.le_of_ble_eq_true e;omega
      ·exact e)
   obtain ⟨CL,Td⟩:=aT.same Tc
   refine cf (us.erase i) (fa.setIfInBounds i true) gQ aE bm ?_ (wL.erase i) (fun j=>?_) (by simp[dZ]) (fun j k ah ag=>?_) CL ⟨a1.size,a1.defers,fun t v hv=>?_⟩ (fun id hid=>?_) (fun j ah aq=>?_)
   ·have:i ∈ us:=(mm i).2 ⟨cj,I⟩
    rw[List.length_erase_of_mem this];omega
   ·rw[wL.mem_erase_iff,mm,ml]
    constructor
    ·rintro ⟨bL,gT,iN⟩;rw[if_neg bL];exact⟨gT,iN⟩
    ·rintro ⟨gT,iN⟩
     split at iN
     ·cases iN
     ·rename_i bL;exact⟨bL,gT,iN⟩
   ·rw[ml] at ah ⊢
    split
    ·rfl
    ·split at ah
     ·rename_i e;subst e;exact(Bd k ag).1
     ·exact u6 j k ah ag
   ·rw[Tb] at hv
    exact(a1.slot t v hv).mono (dX.refl _ _) (fun b h _=>(Td b).1 h) (fun _ _ h=>h)
   ·rw[bz id (by omega) (by omega)];exact e7 id hid
   ·rw[ml] at aq
    split at aq
    ·cases aq
    ·rename_i c9
     rw[bz _ (by omega) (by omega)];exact pc j ah aq
end
end
section
open Go.RowKit
section
variable {P:Program} {N ad aA k bq n0:Nat} {ops:List Oper} {W:Nat->Nat->Bool} {o:Oper} {rest:List Oper} {env:List (Nat×V)} {heap:List (Nat×Option aY)} {Q:ba->Prop}
def bA:List Nat->List (Nat×V)->List (Nat×V)
 | [],_=>[]
 | t :: ts,env=>match cG env t with
  | some v=>(t,v) :: bA ts env
  | none=>bA ts env
theorem mV:∀ {ts:List Nat} {env:List (Nat×V)} {t:Nat} {x:V},cG (bA ts env) t=some x->t ∈ ts/\cG env t=some x
 | [],env,t,x,h=>by simp[bA,cG] at h
 | s :: ts,env,t,x,h=>by
  simp only[bA] at h
  split at h
  ·rename_i v hv
   simp only[cG] at h
   cases hb:Nat.beq s t with
   | true=>
    rw[hb] at h
    simp only[cond_true,Option.some.injEq] at h
    have:=Nat.eq_of_beq_eq_true hb
    subst this;subst h
    exact⟨List.mem_cons_self,hv⟩
   | false=>
    rw[hb] at h
    have:=mV (ts:=ts) h
    exact⟨List.mem_cons_of_mem _ this.1,this.2⟩
  ·have:=mV (ts:=ts) h
   exact⟨List.mem_cons_of_mem _ this.1,this.2⟩
def to (E env:List (Nat×V)):Prop:=∀ t x,cG E t=some x->cG env t=some x
def u7 (E env:List (Nat×Option aY)):Prop:=∀ t x,bd E t=some x->bd env t=some x
theorem lW {E env:List (Nat×V)} (h:to E env) {x:Operand} {v:V} (U:aI E x=some v):aI env x=some v:=by
 cases x with
 | tmp t=>exact h t v U
 | const c=>cases c <;> exact U
 | _=>exact U
mutual
theorem Te {E env:List (Nat×Option aY)} (h:u7 E env):∀ (v:V) {cX:V},gE E v=some cX -> gE env v=some cX
 | .lit _,_,hv=>hv
 | .ro _,_,hv=>hv
 | .own id,cX,hv=>by
  simp only[gE] at hv ⊢
  cases aB:bd E id with
  | none=>rw[aB] at hv;cases hv
  | some B=>rw[h id B aB];rw[aB] at hv;exact hv
 | .ptr ..,_,hv=>hv
 | .e9 _,_,hv=>hv
 | .agg cs,cX,hv=>by
  simp only[gE] at hv ⊢
  split at hv
  ·rename_i fk I;rw[Be h cs I];exact hv
  ·cases hv
 | .b0 cs,cX,hv=>by
  simp only[gE] at hv ⊢
  split at hv
  ·rename_i fk I;rw[Be h cs I];exact hv
  ·cases hv
 | .gi ..,_,hv=>hv
 | .any,_,hv=>hv
 | .gl,_,hv=>hv
theorem Be {E env:List (Nat×Option aY)} (h:u7 E env):∀ (cs:List V) {fk:List V},gE.mz E cs=some fk -> gE.mz env cs=some fk
 | [],_,hv=>hv
 | c :: cs,fk,hv=>by
  simp only[gE.mz] at hv ⊢
  split at hv
  ·rename_i hV Kz I J
   rw[Te h c I,Be h cs J];exact hv
  ·cases hv
end
theorem xF {E env:List (Nat×V)} (h:to E env):∀ {xs:List Operand} {vs:List V},gw E xs=some vs->gw env xs=some vs
 | [],vs,U=>U
 | x :: xs,vs,U=>by
  simp only[gw] at U ⊢
  split at U
  ·rename_i v cc I J
   rw[lW h I,xF h J];exact U
  ·cases U
theorem Bf {E env:List (Nat×V)} (h:to E env) {g:Option (Nat×Bool)} {b:Bool} (aj:bW E ops g=some b):bW env ops g=some b:=by
 cases g with
 | none=>exact aj
 | some E5=>
  obtain ⟨j,w⟩:=E5
  simp only[bW] at aj ⊢
  cases ah:ops[j]? with
  | none=>rw[ah] at aj;cases aj
  | some xf=>
   simp only[ah] at aj ⊢
   cases hd:xf.dst with
   | none=>simp only[hd] at aj;cases aj
   | some d=>
    simp only[hd] at aj ⊢
    cases he:cG E d with
    | none=>simp only[he] at aj;cases aj
    | some v=>rw[h d v he];rw[he] at aj;exact aj
theorem K2 {mT:Nat} {E:List (Nat×V)} {Hn:List (Nat×Option aY)} (aj:bW E ops o.guard=some false) (hd:lR ad o.dst=true):xD P N ad mT ops o E Hn ⟨.gl,[]⟩:=
 fun env heap ay ak F M w0 ρ a w I J ag=>by
  unfold pD
  rw[if_neg (by rw[py J (Bf ay aj)];exact Bool.false_ne_true)]
  refine ⟨ρ,I,?_,fun _ _ _=>rfl⟩
  have:=eR.xg (st:=⟨env,heap,N,ad⟩) J hd (v:=.gl) .gl
  cases K3:o.dst with
  | none=>rw[K3] at this;exact this
  | some d=>rw[K3] at this;exact this
theorem Tf {ρ:Nat->Option Value} {S:Nat->Prop} {w:World} {a:Act} {env:List (Nat×V)} (h:eR ρ S w ad env a) {d:Option Tmp} (hd:lR ad d=true) {v:V} {u:Value} (hv:cC ρ S w v u):eR ρ S w ad (mA d v env) (a.put d u):=by
 cases d with
 | none=>exact h
 | some d=>exact h.put (Nat.le_of_ble_eq_true hd) hv
theorem Tg {mT:Nat} {E:List (Nat×V)} {Hn:List (Nat×Option aY)} {v:V} (aj:bW E ops o.guard=some true) (hd:lR ad o.dst=true) (hq:bw P [] o ⟨E,Hn,N,ad⟩ v):xD P N ad mT ops o E Hn ⟨v,[]⟩:=
 fun env heap ay ak F M w0 ρ a w I J ag=>by
  unfold pD
  rw[if_pos (py J (Bf ay aj))]
  have hS:∀ b,bC (bC F ρ heap) ρ Hn b ↔ bC F ρ heap b:=fun b=>⟨fun h=>h.1,fun h=>⟨h,fun id B u aB aa hu=>h.2 id B u (ak id B aB) aa hu⟩⟩
  have nG:bC (bC F ρ heap) ρ Hn=bC F ρ heap:=funext fun b=>propext (hS b)
  have g1:HRel0 (bC F ρ heap) M ρ Hn N w0 w:=⟨I.below,I.fC,I.sup,fun id dQ B bT u ev b aB cJ=>I.inj id dQ B bT u ev b (ak _ _ aB) (ak _ _ cJ),fun id B aB=>by rw[nG];exact I.dB id B (ak _ _ aB)⟩
  have g2:eR ρ (bC (bC F ρ heap) ρ Hn) w ad E a:=⟨J.size,J.defers,fun t v hv=>by rw[nG];exact J.slot t v (ay t v hv)⟩
  obtain ⟨u,aT,a1⟩:=hq _ M w0 ρ a w g1 g2 rfl
  rw[nG] at aT
  exact my (a1 w (Ext.refl _ _)) ⟨ρ,I,Tf J hd aT,fun _ _ _=>rfl⟩
theorem FA {mT:Nat} {E:List (Nat×V)} {Hn H:List (Nat×Option aY)} {v:V} (aj:bW E ops o.guard=some true) (Th:mT<N)
  (hq:∀ env heap,to E env->u7 Hn heap->ko P mT o ⟨env,heap,N,ad⟩ ⟨mA o.dst v env,H++heap,N,ad⟩):xD P N ad mT ops o E Hn ⟨v,H⟩:=
 fun env heap ay ak F M w0 ρ a w I J ag=>by
  unfold pD
  rw[if_pos (py J (Bf ay aj))]
  refine rH ?_ (hq env heap ay ak F M w0 ρ a w I J ag Th)
  rintro gQ aE ⟨bm,aT,a1,bz,cW⟩
  exact⟨bm,aT,a1,fun id _ h=>cW id h⟩
theorem u9 {mT:Nat} {E:List (Nat×V)} {Hn H:List (Nat×Option aY)} {v:V} (aj:bW E ops o.guard=some true)
  (hq:∀ env heap,to E env->u7 Hn heap->GStep P N o ⟨env,heap,N,ad⟩ ⟨mA o.dst v env,H++heap,N,ad⟩):xD P N ad mT ops o E Hn ⟨v,H⟩:=
 fun env heap ay ak F M w0 ρ a w I J ag=>by
  unfold pD
  rw[if_pos (py J (Bf ay aj))]
  refine rH ?_ (hq env heap ay ak F M w0 ρ a w I J)
  rintro gQ aE ⟨bm,aT,a1,bz,cW⟩
  exact⟨bm,aT,a1,fun id h _=>cW id h⟩
def bk (P:Program) (ad aA:Nat) (ops:List Oper) (W:Nat->Nat->Bool) (k:Nat) (rest:List Oper) (env:List (Nat×V)) (heap:List (Nat×Option aY)) (Q:ba->Prop):Prop:=
 ∃ fp js ch,aA<=k/\k+rest.length=aA+ops.length/\oT P (aA+ops.length) ad aA ops W (k - aA) rest env heap fp js ch/\Q ⟨js,ch,aA+ops.length,ad⟩
theorem xG (h:Q ⟨env,heap,k,ad⟩) (ag:Nat.beq k (aA+ops.length)=true:=by kernel_rfl) (hb:Nat.ble aA k=true:=by kernel_rfl):bk P ad aA ops W k [] env heap Q:=by
 have e:=Nat.eq_of_beq_eq_true ag
 refine ⟨[],env,heap,Nat.le_of_ble_eq_true hb,by simpa using e,.nil _ _ _,?_⟩
 rw[<- e];exact h
theorem nH {s:j2} (ap:∀ N,aA<=k->k<N->Bc P N ad aA ops W (k - aA) o env heap s) (h:bk P ad aA ops W (k+1) rest (mA o.dst s.v env) (s.H++heap) Q) (hb:Nat.ble aA k=true):bk P ad aA ops W k (o :: rest) env heap Q:=by
 obtain ⟨fp,js,ch,I,J,av,bl⟩:=h
 have hb:=Nat.le_of_ble_eq_true hb
 refine ⟨s :: fp,js,ch,hb,by simp only[List.length_cons];omega,.cons (ap _ hb (by omega)) ?_,bl⟩
 rw[show k - aA+1=k+1 - aA by omega];exact av
theorem K4 {id:Nat} {st:ba} {Q:Exit->ba->Prop} {l:List Oper} (W:Nat->Nat->Bool) (h:bk P st.ad st.next l W st.next l st.env st.heap (Q .normal)) (hm:P.follows .mixedOrders=true:=by kernel_rfl) (bu:xA l=true:=by kernel_rfl) (hn0:Nat.ble n0 st.next=true:=by kernel_rfl) :
    cq P n0 (.region id l.toArray true) st Q:=fun F base w0 ρ a w ak ay=>by
  obtain ⟨fp,js,ch,_,_,av,bl⟩:=h
  rw[Nat.sub_self] at av
  have hn0:=Nat.le_of_ble_eq_true hn0
  have tn:∀ i,(Array.replicate l.length false).getD i false=false:=fun i=>by
    rw[Array.getD_eq_getD_getElem?,Array.getElem?_replicate]
    split <;> rfl
  have aH:jb (l.zip fp) 0 (fun i=>(Array.replicate l.length false).getD i false) st.env=st.env:=Fz _ _ _ _ (fun j=>tn _)
  have aN:jc (l.zip fp) 0 (fun i=>(Array.replicate l.length false).getD i false) st.heap=st.heap:=Bb _ _ _ _ (fun j=>tn _)
  refine wp_mono (wp_region_any hm (Q:=lq n0 F base w0 ρ (AN fun s=>s=⟨js,ch,st.next+l.length,st.ad⟩)) ?_) (fun e a w aw=>?_)
  · have eV:dX (bC F ρ st.heap) w { w with drawn:=w.drawn+1 }:=fun b _ _=>rfl
    have rO:en F base ρ st.heap (st.next+l.length) w0 { w with drawn:=w.drawn+1 }:=
      ⟨⟨⟨ak.below.os, ak.below.tape, ak.below.output, ak.below.size, ak.below.block⟩, ak.fC, fun id u h => ⟨Nat.lt_of_lt_of_le (ak.sup id u h).1 (Nat.le_add_right _ _), (ak.sup id u h).2⟩, ak.inj,
        fun id B aB=>(ak.dB id B aB).mono eV (fun b h _=>h) (fun _ _ h=>h) (fun _ _ _ _ _ _=>rfl)⟩,ak.ch⟩
    have rN:=ay.mono eV (fun b h _=>h) (fun _ _ h=>h)
    have:=S2 (n0:=n0) bu av hn0 (F:=F) (M:=base) (w0:=w0) (ρ0:=ρ) l.length (List.range l.length) (Array.replicate l.length false) a { w with drawn:=w.drawn+1 } ρ (by simp) List.nodup_range
      (fun i=>by rw[tn];simp) (by simp) (fun i j h=>by rw[tn] at h;cases h) (by rw[aN];exact rO) (by rw[aH,aN];exact rN) (fun _ _=>rfl)
      (fun i hi _=>by
        cases e7:ρ (st.next+i) with
        | none=>rfl
        | some u=>have:=(ak.sup _ _ e7).1;omega)
    simpa using this
  · obtain ⟨bm,dv,⟨rfl,rfl⟩,aT,a1,bz⟩:=aw
    exact⟨bm,_,bl,aT,a1,bz⟩
theorem rY {id:Nat} (h:kI [] id=true):False:=by cases h
theorem K5 {E:List (Nat×V)} {v:V} {i:Nat} {Hn:List (Nat×Option aY)} (ay:E=bA (looks ops o) env) (FB:∀ id B,bd Hn id=some B->kp ops W aA i id=true/\bd heap id=some B) (aj:bW E ops o.guard=some true) (hd:lR ad o.dst=true) (hq:bw P [] o ⟨E,Hn,N,ad⟩ v) :
  Bc P N ad aA ops W i o env heap ⟨v,[]⟩:=⟨E,Hn,fun t x h=>mV (by rw[<- ay];exact h),FB,fun id h=>(rY h).elim,Tg aj hd hq⟩
theorem h7 {v:V} {d:Nat} (aj:bW (bA (looks ops o) env) ops o.guard=some true) (hd:o.dst=some d) (aL:Nat.blt d ad=true) (hb:Nat.ble aA k=true) (ag:k+1=bq) (hq:∀ N,bw P [] o ⟨bA (looks ops o) env,[],N,ad⟩ v)
  (h:bk P ad aA ops W bq rest ((d,v) :: env) heap Q):bk P ad aA ops W k (o :: rest) env heap Q:=by
 subst ag
 refine nH (s:=⟨v,[]⟩) (fun N _ _=>K5 (Hn:=[]) rfl (fun id B h=>by cases h) aj nz (hq N)) ?_ hb
 rw[hd];exact h
theorem K6 {v:V} {d id:Nat} {B:aY} (aj:bW (bA (looks ops o) env) ops o.guard=some true) (hd:o.dst=some d) (aL:Nat.blt d ad=true) (hb:Nat.ble aA k=true) (ag:k+1=bq) (aB:bd heap id=some B) (hv:kp ops W aA (k - aA) id=true) (hq:∀ N,bw P [] o ⟨bA (looks ops o) env,[(id,some B)],N,ad⟩ v)
  (h:bk P ad aA ops W bq rest ((d,v) :: env) heap Q):bk P ad aA ops W k (o :: rest) env heap Q:=by
 subst ag
 refine nH (s:=⟨v,[]⟩) (fun N _ _=>K5 (Hn:=[(id,some B)]) rfl (fun dQ bT eO=>?_) aj nz (hq N)) ?_ hb
 ·rw[ea] at eO
  split at eO
  ·rename_i e;subst e;injection eO with eO;subst eO;exact⟨hv,aB⟩
  ·cases eO
 ·rw[hd];exact h
theorem xH {d:Nat} (aj:bW (bA (looks ops o) env) ops o.guard=some false:=by rfl) (hd:o.dst=some d:=by rfl) (aL:Nat.blt d ad=true:=by rfl) (ag:k+1=bq:=by(simp only[Nat.reduceAdd];rfl)) (hb:Nat.ble aA k=true:=by rfl)
  (h:bk P ad aA ops W bq rest ((d,.gl) :: env) heap Q):bk P ad aA ops W k (o :: rest) env heap Q:=by
 subst ag
 refine nH (s:=⟨.gl,[]⟩) (fun N _ _=>⟨bA (looks ops o) env,[],fun t x h=>mV h,fun id B h=>(by cases h),fun id h=>(rY h).elim,K2 aj nz⟩) ?_ hb
 rw[hd];exact h
theorem xI (aj:bW (bA (looks ops o) env) ops o.guard=some false:=by rfl) (hd:o.dst=none:=by rfl) (ag:k+1=bq:=by(simp only[Nat.reduceAdd];rfl)) (hb:Nat.ble aA k=true:=by rfl)
  (h:bk P ad aA ops W bq rest env heap Q):bk P ad aA ops W k (o :: rest) env heap Q:=by
 subst ag
 refine nH (s:=⟨.gl,[]⟩) (fun N _ _=>⟨bA (looks ops o) env,[],fun t x h=>mV h,fun id B h=>(by cases h),fun id h=>(rY h).elim,K2 aj (by rw[hd];rfl)⟩) ?_ hb
 rw[hd];exact h
theorem xJ {v u:V} {d:Nat} (hq:tj P [] ⟨bA (looks ops o) env,[],0,ad⟩ o.op=some v:=by rfl) (aj:bW (bA (looks ops o) env) ops o.guard=some true:=by rfl) (eI:hO v u:=by first|(apply hO.agg;repeat' first|exact Norm.nil|apply Norm.cons)|(apply hO.e9;repeat' first|exact Norm.nil|apply Norm.cons)|exact hO.same)
  (hd:o.dst=some d:=by rfl) (aL:Nat.blt d ad=true:=by rfl) (ag:k+1=bq:=by(simp only[Nat.reduceAdd];rfl)) (hb:Nat.ble aA k=true:=by rfl) (h:bk P ad aA ops W bq rest ((d,u) :: env) heap Q):bk P ad aA ops W k (o :: rest) env heap Q:=
 h7 aj hd aL hb ag (fun N=>by rw[<- eI.eq];exact Fx (st:=⟨bA (looks ops o) env,[],N,ad⟩) (by exact hq)) h
def K7 (env:List (Nat×V)) (op:Op):Option Nat:=
 let of (x:Operand):Option Nat:=match aI env x with
  | some (.ptr id _ _ _)=>some id
  | some (.own id)=>some id
  | _=>none
 match op with
 | .load _ x=>of x
 | .indexAddr _ x _=>of x
 | .call { callee:=.builtin .len,args:=⟨[x]⟩,argTypes:=_ }=>of x
 | _=>none
theorem xK {v u:V} {d id:Nat} {B:aY} (hid:K7 (bA (looks ops o) env) o.op=some id:=by rfl) (aB:bd heap id=some B:=by rfl) (hq:tj P [] ⟨bA (looks ops o) env,[(id,some B)],0,ad⟩ o.op=some v:=by rfl) (aj:bW (bA (looks ops o) env) ops o.guard=some true:=by rfl) (eI:hO v u:=by first|(apply hO.agg;repeat' first|exact Norm.nil|apply Norm.cons)|(apply hO.e9;repeat' first|exact Norm.nil|apply Norm.cons)|exact hO.same)
  (hd:o.dst=some d:=by rfl) (aL:Nat.blt d ad=true:=by rfl) (ag:k+1=bq:=by(simp only[Nat.reduceAdd];rfl)) (hb:Nat.ble aA k=true:=by rfl) (hv:kp ops W aA (k - aA) id=true:=by kernel_rfl) (h:bk P ad aA ops W bq rest ((d,u) :: env) heap Q):bk P ad aA ops W k (o :: rest) env heap Q:=
 K6 aj hd aL hb ag aB hv (fun N=>by rw[<- eI.eq];exact Fx (st:=⟨bA (looks ops o) env,[(id,some B)],N,ad⟩) (by exact hq)) h
theorem xL {p:Prop} {d:Nat} (hq:AX (bA (looks ops o) env) o.op=some p:=by rfl) (aj:bW (bA (looks ops o) env) ops o.guard=some true:=by rfl) (hd:o.dst=some d:=by rfl) (aL:Nat.blt d ad=true:=by rfl) (ag:k+1=bq:=by(simp only[Nat.reduceAdd];rfl)) (hb:Nat.ble aA k=true:=by rfl)
  (ht:p->bk P ad aA ops W bq rest ((d,.lit (.bool true)) :: env) heap Q) (hf:¬ p->bk P ad aA ops W bq rest ((d,.lit (.bool false)) :: env) heap Q):bk P ad aA ops W k (o :: rest) env heap Q:=by
 by_cases aw:p
 ·exact h7 aj hd aL hb ag (fun N=>(AY (st:=⟨bA (looks ops o) env,[],N,ad⟩) hq).1 aw) (ht aw)
 ·exact h7 aj hd aL hb ag (fun N=>(AY (st:=⟨bA (looks ops o) env,[],N,ad⟩) hq).2 aw) (hf aw)
theorem xM {fh:IntKind} {r:Int} {d:Nat} (hq:AZ (bA (looks ops o) env) P o.op=some (fh,r):=by rfl) (aj:bW (bA (looks ops o) env) ops o.guard=some true:=by rfl) (hr:fh.wrap r=r:=by first|(rw[IntKind.wrap_i64];omega)|(rw[IntKind.wrap_u64];omega)|(rw[IntKind.wrap_u8];omega))
  (hd:o.dst=some d:=by rfl) (aL:Nat.blt d ad=true:=by rfl) (ag:k+1=bq:=by(simp only[Nat.reduceAdd];rfl)) (hb:Nat.ble aA k=true:=by rfl) (h:bk P ad aA ops W bq rest ((d,.lit (.int fh r)) :: env) heap Q):bk P ad aA ops W k (o :: rest) env heap Q:=
 h7 aj hd aL hb ag (fun N=>by have:=KP (st:=⟨bA (looks ops o) env,[],N,ad⟩) (P:=P) (G:=[]) hq;rw[hr] at this;exact this) h
theorem xN {x:Operand} {t e:TypeId} {l:List (List V)} {n d:Nat} (aa:o.op = .call { callee:=.builtin .len,args:=#[x],argTypes:=#[t] }:=by rfl) (U:aI (bA (looks ops o) env) x=some (.ro l):=by rfl)
  (ht:P.underlying t=some (.slice e):=by rfl) (hn:l.length=n:=by first|exact List.length_map _|(simp only[List.length_map,List.length_append,List.length_cons,List.length_nil,List.length_set];rfl)|rfl)
  (aj:bW (bA (looks ops o) env) ops o.guard=some true:=by rfl) (hd:o.dst=some d:=by rfl) (aL:Nat.blt d ad=true:=by rfl) (ag:k+1=bq:=by(simp only[Nat.reduceAdd];rfl)) (hb:Nat.ble aA k=true:=by rfl) (h:bk P ad aA ops W bq rest ((d,.lit (.int .i64 n)) :: env) heap Q):bk P ad aA ops W k (o :: rest) env heap Q:=by
 subst hn
 refine h7 aj hd aL hb ag (fun N=>Fw (P:=P) aa U ?_) h
 unfold xp
 rw[ht]
theorem da {v u:V} {d:Nat} (aj:bW (bA (looks ops o) env) ops o.guard=some true:=by rfl) (hd:o.dst=some d:=by rfl) (aL:Nat.blt d ad=true:=by rfl) (ag:k+1=bq:=by(simp only[Nat.reduceAdd];rfl)) (hb:Nat.ble aA k=true:=by rfl)
  (hq:∀ N,bw P [] o ⟨bA (looks ops o) env,[],N,ad⟩ v:=by
   intro N
   first
    | exact eo rfl rfl rfl zS uz rfl rfl rfl (je _ (by omega))
    | exact ER rfl rfl rfl (by omega)
    | exact ES rfl rfl rfl (by omega)
    | exact AE rfl rfl rfl (by omega)
    | exact AF rfl rfl rfl (by omega)
    | exact EY rfl rfl rfl rfl (by omega) rfl
    | exact fq rfl rfl rfl rfl rfl (by omega) rfl
    | exact AG rfl rfl rfl (by omega))
  (eI:hO v u:=by first|(apply hO.agg;repeat' first|exact Norm.nil|apply Norm.cons)|(apply hO.e9;repeat' first|exact Norm.nil|apply Norm.cons)|exact hO.same)
  (h:bk P ad aA ops W bq rest ((d,u) :: env) heap Q):bk P ad aA ops W k (o :: rest) env heap Q:=h7 aj hd aL hb ag (fun N=>by rw[<- eI.eq];exact hq N) h
theorem dJ {v u:V} {d id:Nat} {B:aY} (hid:K7 (bA (looks ops o) env) o.op=some id:=by rfl) (aB:bd heap id=some B:=by rfl) (aj:bW (bA (looks ops o) env) ops o.guard=some true:=by rfl) (hd:o.dst=some d:=by rfl) (aL:Nat.blt d ad=true:=by rfl) (ag:k+1=bq:=by(simp only[Nat.reduceAdd];rfl)) (hb:Nat.ble aA k=true:=by rfl) (hv:kp ops W aA (k - aA) id=true:=by kernel_rfl)
  (hq:∀ N,bw P [] o ⟨bA (looks ops o) env,[(id,some B)],N,ad⟩ v:=by
   intro N
   first
    | exact J4 rfl rfl rfl rfl zS Ir rfl rfl
    | exact nB rfl rfl rfl (im rfl uz rfl (je _ (by omega))) rfl
    | exact mn rfl rfl rfl rfl (im rfl uz rfl (je _ (by omega))) (Nat.le_of_ble_eq_true rfl))
  (eI:hO v u:=by first|(apply hO.agg;repeat' first|exact Norm.nil|apply Norm.cons)|(apply hO.e9;repeat' first|exact Norm.nil|apply Norm.cons)|exact hO.same)
  (h:bk P ad aA ops W bq rest ((d,u) :: env) heap Q):bk P ad aA ops W k (o :: rest) env heap Q:=K6 aj hd aL hb ag aB hv (fun N=>by rw[<- eI.eq];exact hq N) h
theorem au {f:FuncId} {xs:Array Operand} {ts:Array TypeId} {vs cc:List V} {r:V} {d:Nat} (hf:Fn P f cc r) (aa:o.op = .call { callee:=.value (.func f),args:=xs,argTypes:=ts }:=by rfl) (aj:bW (bA (looks ops o) env) ops o.guard=some true:=by rfl) (hd:o.dst=some d:=by rfl) (aL:Nat.blt d ad=true:=by rfl)
  (U : gw (bA (looks ops o) env) xs.toList = some vs := by rfl) (iP : kF.k2 0 vs = true := by rfl) (hw : dI vs cc := by ((repeat' (first | exact dI.nil | refine dI.cons ?_ ?_ | exact cZ.refl _ | exact cZ.nil | refine cZ.agg ?_ | refine cZ.b0 ?_)); first | done | fail "args")) (ag : k + 1 = bq := by (simp only [Nat.reduceAdd]; rfl)) (hb : Nat.ble aA k = true := by rfl) (h : bk P ad aA ops W bq rest ((d, r) :: env) heap Q) : bk P ad aA ops W k (o :: rest) env heap Q := by
 subst ag
 refine nH (s:=⟨r,[]⟩) (fun N _ _=>⟨bA (looks ops o) env,[],fun t x h=>mV h,fun id B h=>(by cases h),fun id h=>(rY h).elim,u9 aj (fun gm cS ay ak=>?_)⟩) ?_ hb
 ·have:=KB (P:=P) (n0:=N) (st:=⟨gm,cS,N,ad⟩) aa nz (xF ay U) iP (KD hf hw)
  rw[hd] at this ⊢
  exact this
 ·rw[hd];exact h
theorem K8 {f:FuncId} {xs:Array Operand} {ts:Array TypeId} {vs cc:List V} {b:Bool} {d:Nat} (hf:Fn P f cc (.lit (.bool b))) (aa:o.op = .call { callee:=.value (.func f),args:=xs,argTypes:=ts }:=by rfl) (aj:bW (bA (looks ops o) env) ops o.guard=some true:=by rfl) (hd:o.dst=some d:=by rfl) (aL:Nat.blt d ad=true:=by rfl)
  (U : gw (bA (looks ops o) env) xs.toList = some vs := by rfl) (iP : kF.k2 0 vs = true := by rfl) (hw : dI vs cc := by ((repeat' (first | exact dI.nil | refine dI.cons ?_ ?_ | exact cZ.refl _ | exact cZ.nil | refine cZ.agg ?_ | refine cZ.b0 ?_)); first | done | fail "args")) (ag : k + 1 = bq := by (simp only [Nat.reduceAdd]; rfl)) (hb : Nat.ble aA k = true := by rfl) (ht : b = true -> bk P ad aA ops W bq rest ((d, .lit (.bool true)) :: env) heap Q) (hff : b = false -> bk P ad aA ops W bq rest ((d, .lit (.bool false)) :: env) heap Q) : bk P ad aA ops W k (o :: rest) env heap Q := by
 cases b
 ·exact au hf aa aj hd aL U iP hw ag hb (hff rfl)
 ·exact au hf aa aj hd aL U iP hw ag hb (ht rfl)
theorem dN {f:FuncId} {xs:Array Operand} {ts:Array TypeId} {vs cc:List V} {p:Prop} [Decidable p] {d:Nat} (hf:Fn P f cc (.lit (.bool (decide p)))) (aa:o.op = .call { callee:=.value (.func f),args:=xs,argTypes:=ts }:=by rfl) (aj:bW (bA (looks ops o) env) ops o.guard=some true:=by rfl) (hd:o.dst=some d:=by rfl) (aL:Nat.blt d ad=true:=by rfl)
  (U : gw (bA (looks ops o) env) xs.toList = some vs := by rfl) (iP : kF.k2 0 vs = true := by rfl) (hw : dI vs cc := by ((repeat' (first | exact dI.nil | refine dI.cons ?_ ?_ | exact cZ.refl _ | exact cZ.nil | refine cZ.agg ?_ | refine cZ.b0 ?_)); first | done | fail "args")) (ag : k + 1 = bq := by (simp only [Nat.reduceAdd]; rfl)) (hb : Nat.ble aA k = true := by rfl) (ht : p -> bk P ad aA ops W bq rest ((d, .lit (.bool true)) :: env) heap Q) (hff : ¬ p -> bk P ad aA ops W bq rest ((d, .lit (.bool false)) :: env) heap Q) : bk P ad aA ops W k (o :: rest) env heap Q :=
 K8 hf aa aj hd aL U iP hw ag hb (fun h=>ht (of_decide_eq_true h)) (fun h=>hff (of_decide_eq_false h))
theorem dM {next:Nat} {f:FuncId} {xs:Array Operand} {ts:Array TypeId} {vs cc:List V} {p:Prop} [Decidable p] {d:Nat} (hf:Fn P f cc (.lit (.bool (decide p)))) (aa:o.op = .call { callee:=.value (.func f),args:=xs,argTypes:=ts }:=by rfl) (aj:bW env ops o.guard=some true:=by rfl) (hd:o.dst=some d:=by rfl) (aL:Nat.blt d ad=true:=by rfl)
  (U : gw env xs.toList = some vs := by rfl) (hb : kF.k2 0 vs = true := by rfl) (hw : dI vs cc := by ((repeat' (first | exact dI.nil | refine dI.cons ?_ ?_ | exact cZ.refl _ | exact cZ.nil | refine cZ.agg ?_ | refine cZ.b0 ?_)); first | done | fail "args")) (ht : p -> a8 P n0 ops.toArray rest ⟨(d, .lit (.bool true)) :: env, heap, next, ad⟩ Q) (hff : ¬ p -> a8 P n0 ops.toArray rest ⟨(d, .lit (.bool false)) :: env, heap, next, ad⟩ Q) : a8 P n0 ops.toArray (o :: rest) ⟨env, heap, next, ad⟩ Q :=
 KQ hf aa aj hd aL U hb hw (fun h=>ht (of_decide_eq_true h)) (fun h=>hff (of_decide_eq_false h))
theorem Ti {f:FuncId} {xs:Array Operand} {ts:Array TypeId} {vs cc:List V} {r:V} {d id:Nat} {B:aY} (hf:Fn P f cc r) (aa:o.op = .call { callee:=.value (.func f),args:=xs,argTypes:=ts }:=by rfl) (aj:bW (bA (looks ops o) env) ops o.guard=some true:=by rfl) (hd:o.dst=some d:=by rfl) (aL:Nat.blt d ad=true:=by rfl)
  (U:gw (bA (looks ops o) env) xs.toList=some vs:=by rfl) (aB:bd heap id=some B:=by rfl) (ap:gE.mz [(id,some B)] vs=some cc:=by rfl) (hr:pz r=true:=by rfl) (ag:k+1=bq:=by(simp only[Nat.reduceAdd];rfl)) (hb:Nat.ble aA k=true:=by rfl) (hv:kp ops W aA (k - aA) id=true:=by kernel_rfl) (h:bk P ad aA ops W bq rest ((d,r) :: env) heap Q):bk P ad aA ops W k (o :: rest) env heap Q:=by
 subst ag
 refine nH (s:=⟨r,[]⟩) (fun N _ _=>⟨bA (looks ops o) env,[(id,some B)],fun t x h=>mV h,fun dQ bT eO=>?_,fun id h=>(rY h).elim,u9 aj (fun gm cS ay ak=>?_)⟩) ?_ hb
 ·rw[ea] at eO
  split at eO
  ·rename_i e;subst e;injection eO with eO;subst eO;exact⟨hv,aB⟩
  ·cases eO
 ·have:=KC (P:=P) (n0:=N) (st:=⟨gm,cS,N,ad⟩) aa nz (xF ay U) (Be ak _ ap) hf hr
  rw[hd] at this ⊢
  exact this
 ·rw[hd];exact h
theorem rZ {k id:Nat} {B:Option aY} (h:kI [(k,B)] id=true):id=k:=by
 simp only[kI,Bool.or_false] at h
 exact(Nat.eq_of_beq_eq_true h).symm
theorem xO {T:TypeId} {d:Nat} {cs ds:List V} (aa:o.op = .alloc T:=by rfl) (aj:bW (bA (looks ops o) env) ops o.guard=some true:=by rfl) (hd:o.dst=some d:=by rfl) (aL:Nat.blt d ad=true:=by rfl) (bh:gR P T=some cs:=by rfl) (eI:Norm cs ds:=by repeat' first|exact Norm.nil|apply Norm.cons) (ag:k+1=bq:=by(simp only[Nat.reduceAdd];rfl)) (hb:Nat.ble aA k=true:=by rfl)
  (h:bk P ad aA ops W bq rest ((d,.ptr k 0 0 0) :: env) ((k,some (.box T ds)) :: heap) Q):bk P ad aA ops W k (o :: rest) env heap Q:=by
 subst ag
 have e:=eI.eq
 subst e
 refine nH (s:=⟨.ptr k 0 0 0,[(k,some (.box T cs))]⟩) (fun N I J=>⟨bA (looks ops o) env,[],fun t x h=>mV h,fun id B h=>(by cases h),fun id h=>.inl (by rw[rZ h];omega),?_⟩) ?_ hb
 ·rw[show aA+(k - aA)=k by omega]
  refine FA aj J (fun gm cS ay ak=>?_)
  have:=Kf (P:=P) (k:=k) (st:=⟨gm,cS,N,ad⟩) aa hd aL bh
  rw[hd]
  exact this
 ·rw[hd];exact h
theorem xP {T:TypeId} {d:Nat} {x:Operand} {v:V} {cs ds:List V} (aa:o.op = .box T x:=by rfl) (aj:bW (bA (looks ops o) env) ops o.guard=some true:=by rfl) (hd:o.dst=some d:=by rfl) (aL:Nat.blt d ad=true:=by rfl) (U:aI (bA (looks ops o) env) x=some v:=by rfl) (hf:flat v=some cs:=by rfl) (eI:Norm cs ds:=by repeat' first|exact Norm.nil|apply Norm.cons) (ag:k+1=bq:=by(simp only[Nat.reduceAdd];rfl)) (hb:Nat.ble aA k=true:=by rfl)
  (h:bk P ad aA ops W bq rest ((d,.ptr k 0 0 0) :: env) ((k,some (.box T ds)) :: heap) Q):bk P ad aA ops W k (o :: rest) env heap Q:=by
 subst ag
 have e:=eI.eq
 subst e
 refine nH (s:=⟨.ptr k 0 0 0,[(k,some (.box T cs))]⟩) (fun N I J=>⟨bA (looks ops o) env,[],fun t x h=>mV h,fun id B h=>(by cases h),fun id h=>.inl (by rw[rZ h];omega),?_⟩) ?_ hb
 ·rw[show aA+(k - aA)=k by omega]
  refine FA aj J (fun gm cS ay ak=>?_)
  have:=Kg (P:=P) (k:=k) (st:=⟨gm,cS,N,ad⟩) aa hd aL (lW ay U) hf
  rw[hd]
  exact this
 ·rw[hd];exact h
theorem xQ {T:TypeId} {x y:Operand} {id s j t:Nat} {cs vs ds:List V} {v:V} (aa:o.op = .store T x y:=by rfl) (aj:bW (bA (looks ops o) env) ops o.guard=some true:=by rfl) (hd:o.dst=none:=by rfl) (U:aI (bA (looks ops o) env) x=some (.ptr id 0 s j):=by rfl) (hh:bd heap id=some (.box t cs):=by rfl) (ai:aI (bA (looks ops o) env) y=some v:=by rfl)
  (hf:flat v=some vs:=by rfl) (aV:dt P T=some vs.length:=by rfl) (aq:Nat.ble (j+vs.length) cs.length=true:=by rfl) (eI:Norm (setAt j vs cs) ds:=by repeat' first|exact Norm.nil|apply Norm.cons) (ag:k+1=bq:=by(simp only[Nat.reduceAdd];rfl)) (hb:Nat.ble aA k=true:=by rfl) (mi:W (k - aA) id=true:=by rfl) (hv:kp ops W aA (k - aA) id=true:=by kernel_rfl)
  (h:bk P ad aA ops W bq rest env ((id,some (.box t ds)) :: heap) Q):bk P ad aA ops W k (o :: rest) env heap Q:=by
 subst ag
 have e:=eI.eq
 subst e
 refine nH (s:=⟨.gl,[(id,some (.box t (setAt j vs cs)))]⟩) (fun N I J=>⟨bA (looks ops o) env,[(id,some (.box t cs))],fun t x h=>mV h,fun dQ bT eO=>?_,fun dQ h=>.inr ?_,?_⟩) ?_ hb
 ·rw[ea] at eO
  split at eO
  ·rename_i e;subst e;injection eO with eO;subst eO;exact⟨hv,hh⟩
  ·cases eO
 ·rw[rZ h,aa];exact⟨mi,rfl,hv⟩
 ·refine u9 aj (fun gm cS ay ak=>?_)
  have:=Kk (P:=P) (n0:=N) (st:=⟨gm,cS,N,ad⟩) aa hd (lW ay U) (ak id (.box t cs) (by simp[bd])) (lW ay ai) hf aV aq
  rw[hd]
  exact this
 ·rw[hd];exact h
end
end
end Go.Proofs.YtendheafcbickaaGreat
