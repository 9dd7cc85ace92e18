
import Derived.Test.YtendheafcbickaaGreatCZip
import Derived.Handy
import Derived.Lib.Hide
import Derived.IntWalk
import Derived.Laws.IdiomStrings
import Derived.Orders
import Derived.Below
import Derived.Deep.LoopGhost
import Derived.Laws.Tables
import Derived.Great.BuildSlice
import Derived.Laws.OwnMore
import Derived.Laws.BytesString
import Derived.Deep.OwnRows
import Derived.Lib.AppendStr
import Derived.Laws.IdiomRangeMap
set_option linter.unusedVariables false
set_option linter.unusedSimpArgs false
namespace Go.Proofs.YtendheafcbickaaGreat
variable {A:Option Addr} {F M S base iE:Nat->Prop} {K qC:Act->World->Prop} {T bT cX np t:TypeId} {X:Type} {a:Act} {aF w w0:World} {b by_ d e g i id j mZ n off s:Nat} {bl ρ:Nat->Option Value} {c:Code} {dD u:Value} {f:FuncId} {fn:Func} {m:Int} {news:List Value} {op:BinOp} {p:Prop} {ts:Array TypeId} {us:Array Value} {x y:Operand} {xs:Array Operand}
section
open Go.RowKit
inductive V where
 | lit (v:Value)
 | ro (l:List (List V))
 | own (id:Nat)
 | ptr (id i s j:Nat)
 | fk (cs:List V)
 | agg (cs:List V)
 | bN (vs:List V)
 | fs (f:FuncId) (cs:List V)
 | any
 | gN
abbrev I (x:Int):V:=.lit (.int .i64 x)
abbrev ab (x:Bool):V:=.lit (.bool x)
abbrev tg (x:Int):V:=.lit (.int .u64 x)
abbrev aX:V:=.lit (.slice none 0 0)
abbrev Wb:V:=.lit undef
def bw (l:List V) (j:Nat):V:=l.getD j Wb
def bb (l:List (List V)) (i:Nat):List V:=l.getD i []
def iA (q:Option IntKind) (v:Value):Bool:=match q,v with
 | some q,.int k _=>decide (k=q)
 | none,.string _=>true
 | _,_=>false
inductive aT where
 | box (t:TypeId) (cs:List V)
 | row (e:TypeId) (s:Nat) (l:List (List V))
 | dY (l:List (List V))
 | map (q:Option IntKind) (es:List (Value×Value))
 | obj (o:Obj)
 | ch (e:TypeId) (s:Nat) (l:List (List V))
 | gF (q:Option IntKind) (es:List (Value×Value))
 | iter (left:List (Value×Value)) (cQ:Option (Value×Value))
 | mV (e:TypeId) (l:List UInt8)
def aT.owns:aT->Bool
 | .dY _=>false
 | .gF _ _=>false
 | _=>true
structure aW where
 env:List (Nat×V)
 heap:List (Nat×Option aT)
 next:Nat
 af:Nat
def cW:List (Nat×V)->Nat->Option V
 | [],_=>none
 | (t,v) :: r,s=>bif Nat.beq t s then some v else cW r s
def aM:List (Nat×Option aT)->Nat->Option aT
 | [],_=>none
 | (t,v) :: r,s=>bif Nat.beq t s then v else aM r s
def dU:Value->Option Nat
 | .slice (some a) _ _=>some a.block
 | .pointer (some a)=>some a.block
 | .map (some b)=>some b
 | _=>none
inductive gn (S:Nat->Prop) (w:World):V->Value->Prop
 | lit (v:Value) (h:v.oneCell' = true):gn S w (.lit v) v
 | ro (l:List (List V)) (A:Option Addr) (c s b off:Nat) (us:Nat->Nat->Value) (hc:l.length<=c) (hm:c<=maxLen)
   (ar:0<s) (dC:0<l.length->A=some ⟨b,off,none⟩/\S b) (aw:∀ i,i<l.length->(bb l i).length=s)
   (kX:∀ i j,i<l.length->j<s->w.cell? ⟨b,off+i * s+j,none⟩=some (us i j))
   (hrel:∀ i j,i<l.length->j<s->gn S w (bw (bb l i) j) (us i j)):gn S w (.ro l) (.slice A l.length c)
inductive cT (ρ:Nat->Option Value) (S:Nat->Prop) (w:World):V->Value->Prop
 | pure {v:V} {u:Value} (h:gn S w v u):cT ρ S w v u
 | own {id:Nat} {u:Value} (h:ρ id=some u):cT ρ S w (.own id) u
 | ptr {id i s j b:Nat} {u:Value} (h:ρ id=some u) (hb:dU u=some b):cT ρ S w (.ptr id i s j) (.pointer (some ⟨b,i * s+j,none⟩))
 | fk {cs:List V} {b off:Nat} (us:Nat->Value) (hS:0<cs.length->S b) (kX:∀ j,j<cs.length->w.cell? ⟨b,off+j,none⟩=some (us j))
   (hrel:∀ j,j<cs.length->gn S w (bw cs j) (us j)):cT ρ S w (.fk cs) (.pointer (some ⟨b,off,none⟩))
 | agg {cs:List V} {us:Array Value} (hn:us.size=cs.length) (h:∀ j,j<cs.length->cT ρ S w (bw cs j) (us.getD j undef)):cT ρ S w (.agg cs) (.agg us)
 | bN {cs:List V} {us:Array Value} (hn:us.size=cs.length) (h:∀ j,j<cs.length->cT ρ S w (bw cs j) (us.getD j undef)):cT ρ S w (.bN cs) (.tuple us)
 | fs {f:FuncId} {cs:List V} {us:Array Value} (hn:us.size=cs.length) (h:∀ j,j<cs.length->cT ρ S w (bw cs j) (us.getD j undef)):cT ρ S w (.fs f cs) (.func (.func f) #[] us)
 | any (u:Value):cT ρ S w .any u
 | gN:cT ρ S w .gN undef
def dl (S:Nat->Prop) (w aF:World):Prop:=∀ b,S b->b<w.heap.size->aF.heap[b]? = w.heap[b]?
theorem qK {o:Nat} (h:w.cell? ⟨b,o,none⟩=some u):b<w.heap.size:=World.block_lt_of_cell? w _ h
theorem dl.cell (h:dl S w aF) {o:Nat} (hS:S b) (hc:w.cell? ⟨b,o,none⟩=some u):aF.cell? ⟨b,o,none⟩=some u:=by
 have:=h b hS (qK hc);rw[<- hc];simp[World.cell?,this]
theorem dl.refl (S:Nat->Prop) (w:World):dl S w w:=fun _ _ _=>rfl
theorem gn.mono {v:V} (h:gn S w v u) (hw:dl S w aF) (hS:∀ b,S b->b<w.heap.size->iE b):gn iE aF v u:=by
 induction h with
 | lit v h=>exact .lit v h
 | ro l A c s b off us hc hm ar dC aw kX hrel bU=>
  by_cases ai:0<l.length
  ·have bW:=qK (kX 0 0 ai ar);exact .ro l A c s b off us hc hm ar (fun _=>⟨(dC ai).1,hS b (dC ai).2 bW⟩) aw (fun i j hi ad=>hw.cell (dC ai).2 (kX i j hi ad)) bU
  ·exact .ro l A c s b off us hc hm ar (fun h=>absurd h ai) aw (fun i j hi=>by omega) (fun i j hi=>by omega)
theorem cT.mono {v:V} (h:cT ρ S w v u) (hw:dl S w aF) (hS:∀ b,S b->b<w.heap.size->iE b) (ff:∀ id u,ρ id=some u->bl id=some u):cT bl iE aF v u:=by
 induction h with
 | pure h=>exact .pure (h.mono hw hS)
 | own h=>exact .own (ff _ _ h)
 | ptr h hb=>exact .ptr (ff _ _ h) hb
 | @fk cs b off us pP kX hrel=>
  refine .fk us (fun ai=>hS b (pP ai) (qK (kX 0 ai))) (fun j ad=>hw.cell (pP (by omega)) (kX j ad)) (fun j ad=>(hrel j ad).mono hw hS)
 | agg hn h bU=>exact .agg hn bU
 | bN hn h bU=>exact .bN hn bU
 | fs hn h bU=>exact .fs hn bU
 | any u=>exact .any u
 | gN=>exact .gN
def bs (F:Nat->Prop) (ρ:Nat->Option Value) (heap:List (Nat×Option aT)) (b:Nat):Prop:=
 F b /\ ∀ id B u,aM heap id=some B->B.owns=true->ρ id=some u->dU u≠some b
def w9 (b3:Array MapEntry) (clock:Nat):Prop:=(b3.toList.map (·.born)).Nodup /\ ∀ e ∈ b3.toList,e.born<clock
abbrev lj (e:MapEntry):Value×Value:=(e.key,e.val)
def rq (base:Nat->Prop) (ρ:Nat->Option Value) (S:Nat->Prop) (w:World) (id:Nat):aT->Prop
 | .box t cs=>∃ b us,ρ id=some (.pointer (some ⟨b,0,none⟩))/\base b/\w.heap[b]? = some (.cells us t (0,0))/\us.size=cs.length /\
   ∀ j,j<cs.length->cT ρ S w (bw cs j) (us.getD j undef)/\(us.getD j undef).oneCell' = true
 | .row e s l=>0<s /\ ∃ v xs,ρ id=some v/\(w.ownsRow 0 e s v l.length xs /\ ∀ b,dU v=some b->base b)/\(∀ i,i<l.length->(bb l i).length=s) /\
   ∀ i j,i<l.length->j<s -> ∃ u,xs[i * s+j]? = some u/\gn S w (bw (bb l i) j) u/\u.oneCell' = true
 | .dY l=>∃ v,ρ id=some v/\gn S w (.ro l) v /\ ∀ a n c,v = .slice (some a) n c->a.off=0
 | .map q es=>∃ b b3 clock,ρ id=some (.map (some b))/\base b/\w.heap[b]? = some (.map b3 clock)/\b3.toList.map (fun e=>(e.key,e.val))=es/\(∀ p,p ∈ es->iA q p.1=true/\p.2.oneCell' = true)/\w9 b3 clock
 | .obj o=>∃ b,ρ id=some (.pointer (some ⟨b,0,none⟩))/\base b/\w.heap[b]? = some o
 | .mV e l=>∃ b cap cQ jq,ρ id=some (.slice (some ⟨b,0,none⟩) l.length cap)/\base b/\w.heap[b]? = some (.cells cQ e jq)/\(l.length<=cap/\cap<=maxLen/\cap<=cQ.size)/\(∀ j,j<cap -> ¬ (jq.1<=j/\j<jq.2))/\(∀ j,j<l.length->cQ.getD j undef = .int .u8 ((l.getD j default).toNat:Int))
 | .ch e s l=>0<s /\ ∃ v xs,ρ id=some v/\(w.ownsRow 0 e s v l.length xs /\ ∀ b,dU v=some b->base b)/\(∀ i,i<l.length->(bb l i).length=s) /\
   ∀ i j,i<l.length->j<s -> ∃ u,xs[i * s+j]? = some u/\cT ρ S w (bw (bb l i) j) u/\u.oneCell' = true
 | .gF q es=>∃ b b3 clock,ρ id=some (.map (some b))/\S b/\w.heap[b]? = some (.map b3 clock)/\b3.toList.map lj=es/\(∀ p,p ∈ es->iA q p.1=true/\p.2.oneCell' = true)/\w9 b3 clock
 | .iter left cQ=>∃ r b b3 clock since seen dz,ρ id=some (.pointer (some ⟨r,0,none⟩))/\base r/\w.heap[r]? = some (.mapIter (some b) since seen dz)/\S b/\w.heap[b]? = some (.map b3 clock) /\
   (w9 b3 clock/\(∀ e ∈ b3.toList,e.born<since)/\since<=dz/\since<=clock/\(leftOf b3 seen).toList.map lj=left/\(∀ e ∈ b3.toList,e.key.oneCell' = true/\e.val.oneCell' = true) /\
   ∀ pK,cQ=some pK->dz=clock /\ ∃ (C0:Array Nat) (e:MapEntry),seen=C0.push e.born/\e ∈ b3.toList/\lj e=pK)
theorem rq.mono {B:aT} (h:rq base ρ S w id B) (hw:dl S w aF) (hS:∀ b,S b->b<w.heap.size->iE b) (ff:∀ id u,ρ id=some u->bl id=some u) (hB:B.owns=true -> ∀ u b,ρ id=some u->dU u=some b->b<w.heap.size->aF.heap[b]? = w.heap[b]?):rq base bl iE aF id B:=by
 cases B with
 | box t cs=>
  obtain ⟨b,us,J,aa,az,bk,dG⟩:=h;have bW:=(gB.1 az).1;exact⟨b,us,ff _ _ J,aa,by rw[hB rfl _ b J rfl bW];exact az,bk,fun j ad=>⟨(dG j ad).1.mono hw hS ff,(dG j ad).2⟩⟩
 | row e s l=>
  obtain ⟨ai,v,xs,J,aa,az,bk⟩:=h;refine ⟨ai,v,xs,ff _ _ J,⟨⟨aa.1.1,?_⟩,aa.2⟩,az,fun i j hi ad=>?_⟩
  ·rcases aa.1.2 with hn | ⟨g,cap,cQ,rfl,hb,av,rest⟩
   ·exact .inl hn
   ·exact .inr ⟨g,cap,cQ,rfl,hb,by rw[hB rfl _ g J rfl (gB.1 av).1];exact av,rest⟩
  ·obtain ⟨u,hu,ar,ae⟩:=bk i j hi ad;exact⟨u,hu,ar.mono hw hS,ae⟩
 | dY l=>
  obtain ⟨v,J,aa,az⟩:=h;exact⟨v,ff _ _ J,aa.mono hw hS,az⟩
 | map q es=>
  obtain ⟨b,b3,clock,J,aa,az,bk⟩:=h;exact⟨b,b3,clock,ff _ _ J,aa,by rw[hB rfl _ b J rfl (gB.1 az).1];exact az,bk⟩
 | obj o=>
  obtain ⟨b,J,aa,az⟩:=h;exact⟨b,ff _ _ J,aa,by rw[hB rfl _ b J rfl (gB.1 az).1];exact az⟩
 | mV be lL=>
  obtain ⟨b,cap,cQ,jq,J,aa,az,bk⟩:=h;exact⟨b,cap,cQ,jq,ff _ _ J,aa,by rw[hB rfl _ b J rfl (gB.1 az).1];exact az,bk⟩
 | ch e s l=>
  obtain ⟨ai,v,xs,J,aa,az,bk⟩:=h;refine ⟨ai,v,xs,ff _ _ J,⟨⟨aa.1.1,?_⟩,aa.2⟩,az,fun i j hi ad=>?_⟩
  ·rcases aa.1.2 with hn | ⟨g,cap,cQ,rfl,hb,av,rest⟩
   ·exact .inl hn
   ·exact .inr ⟨g,cap,cQ,rfl,hb,by rw[hB rfl _ g J rfl (gB.1 av).1];exact av,rest⟩
  ·obtain ⟨u,hu,ar,ae⟩:=bk i j hi ad;exact⟨u,hu,ar.mono hw hS ff,ae⟩
 | gF q es=>
  obtain ⟨b,b3,clock,J,aa,az,bk⟩:=h;have bW:=(gB.1 az).1;exact⟨b,b3,clock,ff _ _ J,hS b aa bW,by rw[hw b aa bW];exact az,bk⟩
 | iter left cQ=>
  obtain ⟨r,b,b3,clock,since,seen,dz,J,aa,az,bk,dG,h9⟩:=h;have bW:=(gB.1 dG).1;exact⟨r,b,b3,clock,since,seen,dz,ff _ _ J,aa,by rw[hB rfl _ r J rfl (gB.1 az).1];exact az,hS b bk bW,by rw[hw b bk bW];exact dG,h9⟩
structure o3 (base:Nat->Prop) (w aF:World):Prop where
 os:aF.os=w.os
 tape:aF.tape=w.tape
 output:aF.output=w.output
 size:w.heap.size<=aF.heap.size
 block:∀ k,k<w.heap.size -> ¬ base k->aF.heap[k]? = w.heap[k]?
theorem o3.refl (base:Nat->Prop) (w:World):o3 base w w:=⟨rfl,rfl,rfl,e4 _,fun _ _ _=>rfl⟩
theorem o3.trans {a b c:World} (h:o3 base a b) (k:o3 base b c):o3 base a c:=
 ⟨k.os.trans h.os,k.tape.trans h.tape,k.output.trans h.output,qJ h.size k.size,fun i hi hb=>(k.block i (Nat.lt_of_lt_of_le hi h.size) hb).trans (h.block i hi hb)⟩
theorem o3.OD (h:Below w.heap.size w aF):o3 base w aF:=⟨h.os,h.tape,h.output,h.size,fun k ag _=>h.block k ag⟩
theorem o3.OE (h:o3 (fun b=>w.heap.size<=b) w aF):Below w.heap.size w aF:=⟨h.os,h.tape,h.output,h.size,fun k ag=>h.block k ag (by omega)⟩
structure HRel0 (F:Nat->Prop) (base:Nat->Prop) (ρ:Nat->Option Value) (heap:List (Nat×Option aT)) (next:Nat) (w0 w:World):Prop where
 below:o3 base w0 w
 fl:∀ b,w.heap.size<=b->base b
 sup:∀ id u,ρ id=some u->id<next/\u.oneCell' = true
 inj:∀ id dk B bd u dD b,aM heap id=some B->aM heap dk = some bd -> B.owns=true->bd.owns=true->ρ id=some u->ρ dk = some dD -> dU u=some b->dU dD = some b->id=dk
 cJ:∀ id B,aM heap id=some B->rq base ρ (bs F ρ heap) w id B
structure eA (F:Nat->Prop) (base:Nat->Prop) (ρ:Nat->Option Value) (heap:List (Nat×Option aT)) (next:Nat) (w0 w:World):Prop extends HRel0 F base ρ heap next w0 w where
 dX:∀ b,base b->F b
structure e0 (ρ:Nat->Option Value) (S:Nat->Prop) (w:World) (af:Nat) (env:List (Nat×V)) (a:Act):Prop where
 size:a.tmps.size=af
 defers:a.defers=[]
 slot:∀ t v,cW env t=some v->cT ρ S w v (a.tmps.getD t undef)
theorem HRel0.owned {heap:List (Nat×Option aT)} {next:Nat} (h:HRel0 F base ρ heap next w0 w) {B:aT} (an:aM heap id=some B) (ae:B.owns=true) (hu:ρ id=some u) (hb:dU u=some b):base b/\b<w.heap.size:=by
 have:=h.cJ id B an
 cases B with
 | box t cs=>
  obtain ⟨fD,us,J,aa,az,_⟩:=this;rw[hu] at J;cases J;simp only[dU,ck] at hb;subst hb;exact⟨aa,(gB.1 az).1⟩
 | row e s l=>
  obtain ⟨ai,v,xs,J,aa,_⟩:=this;rw[hu] at J;cases J;refine ⟨aa.2 b hb,(aa.1.lt b ?_).2⟩;rcases aa.1.2 with⟨rfl,_⟩ | ⟨g,_,_,rfl,_⟩
  ·simp[dU] at hb
  ·simpa[dU,Value.ownBlock] using hb
 | dY l=>cases ae
 | map q es=>
  obtain ⟨fD,b3,clock,J,aa,az,_⟩:=this;rw[hu] at J;cases J;simp only[dU,ck] at hb;subst hb;exact⟨aa,(gB.1 az).1⟩
 | obj o=>
  obtain ⟨fD,J,aa,az⟩:=this;rw[hu] at J;cases J;simp only[dU,ck] at hb;subst hb;exact⟨aa,(gB.1 az).1⟩
 | mV be lL=>
  obtain ⟨fD,cap,cQ,jq,J,aa,az,bk⟩:=this;rw[hu] at J;cases J;simp only[dU,ck] at hb;subst hb;exact⟨aa,(gB.1 az).1⟩
 | ch e s l=>
  obtain ⟨ai,v,xs,J,aa,_⟩:=this;rw[hu] at J;cases J;refine ⟨aa.2 b hb,(aa.1.lt b ?_).2⟩;rcases aa.1.2 with⟨rfl,_⟩ | ⟨g,_,_,rfl,_⟩
  ·simp[dU] at hb
  ·simpa[dU,Value.ownBlock] using hb
 | gF q es=>cases ae
 | iter left cQ=>
  obtain ⟨r,fD,b3,clock,since,seen,dz,J,aa,az,_⟩:=this;rw[hu] at J;cases J;simp only[dU,ck] at hb;subst hb;exact⟨aa,(gB.1 az).1⟩
theorem eA.step {heap cB:List (Nat×Option aT)} {next next':Nat} (f:Nat) (row:Option Nat) (h:eA F base ρ heap next w0 w) (av:w.grownBy aF row) (xw:∀ k,row=some k->base k /\ ¬ bs F ρ heap k) (ff:∀ id u,ρ id=some u->bl id=some u) (Wc:∀ id u,bl id=some u->id<next' /\ u.oneCell' = true) (hold:∀ id B,id≠f->aM cB id=some B->aM heap id=some B /\ ∃ u,ρ id=some u/\(B.owns=true -> ∀ b,dU u=some b->row≠some b)) (Im:∀ B u b,aM cB f=some B->B.owns=true->bl f=some u->dU u=some b->w.heap.size<=b\/(¬ bs F ρ heap b /\ ∀ id bd dD,id≠f->aM cB id=some bd -> bd.owns=true->bl id=some dD -> dU dD ≠ some b)) (hf:∀ B,aM cB f=some B->(∀ b,bs F ρ heap b->b<w.heap.size->bs F bl cB b)->dl (bs F ρ heap) w aF -> rq base bl (bs F bl cB) aF f B) :
  eA F base bl cB next' w0 aF /\ dl (bs F ρ heap) w aF /\ (∀ b,bs F ρ heap b->b<w.heap.size->bs F bl cB b):=by
 have dc:dl (bs F ρ heap) w aF:=fun b hS bW=>av.block b bW (fun e=>(xw b e.symm).2 hS)
 have zJ:∀ b,bs F ρ heap b->b<w.heap.size->bs F bl cB b:=by
  intro b hS bW;refine ⟨hS.1,fun id B u an ae hu hb=>?_⟩;by_cases hid:id=f
  ·subst hid;rcases Im B u b an ae hu hb with J|J
   ·omega
   ·exact J.1 hS
  ·obtain ⟨J,dD,c2,_⟩:=hold id B hid an;have:=ff _ _ c2;rw[hu] at this;cases this;exact hS.2 id B u J ae c2 hb
 refine ⟨⟨⟨h.below.trans ⟨av.os,av.tape,av.output,av.size,fun k ag hb=>av.block k ag (fun e=>hb (xw k e.symm).1)⟩,fun b hb=>h.fl b (qJ av.size hb),Wc,?_,?_⟩,h.dX⟩,dc,zJ⟩
 ·intro id dk B bd u dD b an b0 ae dK hu c2 hb cG;by_cases aI:id=f
  ·by_cases a7:dk = f
   ·rw[aI,a7]
   ·exfalso;subst aI;obtain ⟨J,v,ak,Io⟩:=hold dk bd a7 b0;have e:=ff _ _ ak;rw[c2] at e;cases e;have ao:=(h.owned J dK ak cG).2;rcases Im B u b an ae hu hb with aa|aa
    ·omega
    ·exact aa.2 dk bd dD a7 b0 dK c2 cG
  ·by_cases a7:dk = f
   ·exfalso;subst a7;obtain ⟨J,v,ak,Io⟩:=hold id B aI an;have e:=ff _ _ ak;rw[hu] at e;cases e;have ao:=(h.owned J ae ak hb).2;rcases Im bd dD b b0 dK c2 cG with aa|aa
    ·omega
    ·exact aa.2 id B u aI an ae hu hb
   ·obtain ⟨J,v,ak,_⟩:=hold id B aI an;obtain ⟨n5,cH,rc,_⟩:=hold dk bd a7 b0;have e:=ff _ _ ak;rw[hu] at e;cases e;have kp:=ff _ _ rc;rw[c2] at kp;cases kp;exact h.inj id dk B bd u dD b J n5 ae dK ak rc hb cG
 ·intro id B an;by_cases aI:id=f
  ·subst aI;exact hf B an zJ dc
  ·obtain ⟨J,v,ak,Io⟩:=hold id B aI an;refine (h.cJ id B J).mono dc zJ ff (fun ae u b hu hb bW=>?_);rw[ak] at hu;cases hu;exact av.block b bW (fun e=>Io ae b hb e.symm)
theorem eA.grow {heap:List (Nat×Option aT)} {next:Nat} (h:eA F base ρ heap next w0 w) (hb:Below w.heap.size w aF) :
  eA F base ρ heap next w0 aF:=by
 have aw:dl (bs F ρ heap) w aF:=fun b _ bW=>hb.block b bW
 refine ⟨⟨h.below.trans (.OD hb),fun b hl=>h.fl b (qJ hb.size hl),h.sup,h.inj,fun id B an=>?_⟩,h.dX⟩;exact(h.cJ id B an).mono aw (fun b h _=>h) (fun _ _ h=>h) (fun _ u b _ _ bW=>hb.block b bW)
theorem e0.mono {af:Nat} {env:List (Nat×V)} (h:e0 ρ S w af env a) (hw:dl S w aF) (hS:∀ b,S b->b<w.heap.size->iE b) (ff:∀ id u,ρ id=some u->bl id=some u):e0 bl iE aF af env a:=
 ⟨h.size,h.defers,fun t v ak=>(h.slot t v ak).mono hw hS ff⟩
theorem e0.put {af:Nat} {env:List (Nat×V)} (h:e0 ρ S w af env a) (hd:d<af) {v:V} (ak:cT ρ S w v u) :
  e0 ρ S w af ((d,v) :: env) (a.put (some d) u):=by
 refine ⟨by simp[Act.put,h.size],h.defers,fun t x U=>?_⟩;simp only[cW] at U;by_cases Ip:d=t
 ·subst Ip;simp only[Nat.beq_refl,cond_true,ck] at U;subst U;have:(a.put (some d) u).tmps.getD d undef=u:=by simp[Act.put,h.size,hd]
  rw[this];exact ak
 ·have hb:Nat.beq d t=false:=by
   cases hb:Nat.beq d t
   ·rfl
   ·exact absurd (iF hb) Ip
  rw[hb] at U;simp only[cond_false] at U;have:(a.put (some d) u).tmps.getD t undef=a.tmps.getD t undef:=by
   simp only[Act.put];rw[gg,gg,Array.getElem?_setIfInBounds_ne Ip]
  rw[this];exact h.slot t x U
def aJ (env:List (Nat×V)):Operand->Option V
 | .tmp t=>cW env t
 | .const (.agg cs)=>bif cs.toList.all (fun u=>u.oneCell') then some (.agg (cs.toList.map .lit)) else none
 | .const (.tuple _)=>none
 | .const v=>some (.lit v)
 | .func f=>some (.fs f [])
 | .global _=>none
theorem df {af:Nat} {env:List (Nat×V)} (h:e0 ρ S w af env a) {v:V} (U:aJ env x=some v):cT ρ S w v (a.eval x):=by
 cases x with
 | tmp t=>exact h.slot t v U
 | const c=>
  cases c
  case agg cs=>
   simp only[aJ] at U
   cases hb:cs.toList.all (fun u=>u.oneCell') with
   | false=>rw[hb] at U;cases U
   | true=>
    rw[hb] at U;simp only[cond_true,ck] at U;subst U;refine .agg (by simp) (fun j ad=>?_);simp only[bY,pQ] at ad;have aI:bw (cs.toList.map V.lit) j = .lit (cs.getD j undef):=by
     unfold bw;rw[bZ,qn,eB kY];simp[gg,ad]
    rw[aI];refine .pure (.lit _ ?_);rw[lG] at hb;refine hb _ ?_;simp[gg,ad]
  case tuple=>simp[aJ] at U
  all_goals (simp only[aJ,ck] at U;subst U;exact .pure (.lit _ rfl))
 | func f=>
  simp only[aJ,ck] at U;subst U;exact .fs (by simp) (fun j ad=>by simp at ad)
 | global g=>simp[aJ] at U
def u5 (ρ:Nat->Option Value) (G:List Nat) (b:Nat):Prop:=∃ id u,id ∈ G/\ρ id=some u/\dU u=some b
structure Ext (B:Nat->Prop) (w aF:World):Prop where
 size:w.heap.size<=aF.heap.size
 block:∀ k,k<w.heap.size -> ¬ B k->aF.heap[k]? = w.heap[k]?
theorem Ext.refl (B:Nat->Prop) (w:World):Ext B w w:=⟨e4 _,fun _ _ _=>rfl⟩
theorem Ext.trans {B:Nat->Prop} {a b c:World} (h:Ext B a b) (k:Ext B b c):Ext B a c:=
 ⟨qJ h.size k.size,fun i hi an=>(k.block i (Nat.lt_of_lt_of_le hi h.size) an).trans (h.block i hi an)⟩
theorem Ext.OD {B:Nat->Prop} (h:Below w.heap.size w aF):Ext B w aF:=⟨h.size,fun k ag _=>h.block k ag⟩
def vv (heap:List (Nat×Option aT)):List Nat->Bool
 | []=>true
 | id :: r=>match aM heap id with
  | some B=>B.owns && vv heap r
  | none=>false
theorem Iq {heap:List (Nat×Option aT)}:∀ {G:List Nat},vv heap G=true -> ∀ id,id ∈ G -> ∃ B,aM heap id=some B/\B.owns=true
 | [],_,_,h=>by cases h
 | i :: r,h,id,hm=>by
  simp only[vv] at h
  cases an:aM heap i with
  | none=>rw[an] at h;cases h
  | some B=>
   rw[an] at h;simp only[fM] at h;rcases hX.1 hm with rfl|hm
   ·exact⟨B,an,h.1⟩
   ·exact Iq h.2 id hm
def bu (P:Program) (G:List Nat) (o:Oper) (st:aW) (v:V):Prop:=
 ∀ F base w0 ρ a w,HRel0 F base ρ st.heap st.next w0 w->e0 ρ (bs F ρ st.heap) w st.af st.env a->vv st.heap G=true ->
  ∃ u,cT ρ (bs F ρ st.heap) w v u /\ ∀ aF,Ext (u5 ρ G) w aF -> (execOp a.eval o).run P aF = .ok (.value u) aF
def Next (n0:Nat) (F:Nat->Prop) (base:Nat->Prop) (w0:World) (ρ:Nat->Option Value) (w:World) (bq:aW) (hx:Act) (aF:World):Prop:=
 ∃ bl,eA F base bl bq.heap bq.next w0 aF /\ e0 bl (bs F bl bq.heap) aF bq.af bq.env hx /\ (∀ id u,ρ id=some u->bl id=some u)/\(∀ id,id<n0->bl id=ρ id)
def GStep (P:Program) (n0:Nat) (o:Oper) (st bq:aW):Prop:=
 ∀ F base w0 ρ a w,eA F base ρ st.heap st.next w0 w->e0 ρ (bs F ρ st.heap) w st.af st.env a->o.wp P a w (Next n0 F base w0 ρ w bq) (fun _ _ _=>False)
section
variable {P:Program} {G:List Nat} {o:Oper} {st:aW}
theorem iP {v:V} (h:∀ F base w0 ρ a w,HRel0 F base ρ st.heap st.next w0 w->e0 ρ (bs F ρ st.heap) w st.af st.env a -> ∃ u,cT ρ (bs F ρ st.heap) w v u /\ ∀ aF,(execOp a.eval o).run P aF = .ok (.value u) aF):bu P G o st v:=
 fun F base w0 ρ a w hH ax _=>let ⟨u,J,aa⟩:=h F base w0 ρ a w hH ax;⟨u,J,fun aF _=>aa aF⟩
theorem Wd {v:V} (ae:o.op = .move x) (U:aJ st.env x=some v):bu P G o st v:=
 iP fun F base w0 ρ a w hH ax=>⟨_,df ax U,fun aF=>by unfold execOp;rw[ae];rfl⟩
theorem We {v:V} (ae:o.op = .assign x) (U:aJ st.env x=some v):bu P G o st v:=
 iP fun F base w0 ρ a w hH ax=>⟨_,df ax U,fun aF=>by unfold execOp;rw[ae];rfl⟩
theorem fO (h:cT ρ S w (.lit u) dD):dD = u:=by
 cases h with
 | pure h=>cases h;rfl
theorem Wf (h:cT ρ S w (.lit u) dD):u.oneCell' = true:=by
 cases h with
 | pure h=>cases h;assumption
theorem Wg {c:Operand} {v:V} (ae:o.op = .pick c x y) (hc:aJ st.env c=some (ab true)) (U:aJ st.env x=some v):bu P G o st v:=
 iP fun F base w0 ρ a w hH ax=>⟨_,df ax U,fun aF=>by unfold execOp;rw[ae];simp only[];rw[fO (df ax hc)];rfl⟩
theorem Wh {c:Operand} {v:V} (ae:o.op = .pick c x y) (hc:aJ st.env c=some (ab false)) (U:aJ st.env y=some v):bu P G o st v:=
 iP fun F base w0 ρ a w hH ax=>⟨_,df ax U,fun aF=>by unfold execOp;rw[ae];simp only[];rw[fO (df ax hc)];rfl⟩
theorem jX {v r:Value} (ae:o.op = .binOp op T x y cX) (U:aJ st.env x=some (.lit u)) (aj:aJ st.env y=some (.lit v)) (hr:∀ w,(do eqGuard op T x y u v;binOp op T u v:Sem Value).run P w = .ok r w) (J:r.oneCell' = true):bu P G o st (.lit r):=
 iP fun F base w0 ρ a w hH ax=>⟨r,.pure (.lit _ J),fun aF=>by
  unfold execOp;rw[ae];simp only[];rw[fO (df ax U),fO (df ax aj)];have:=hr aF;simp only[Sem.run_bind] at this ⊢
  rw[this];rfl⟩
theorem OF {k:IntKind} {n:Int} (ae:o.op = .binOp .add T x y cX) (U:aJ st.env x=some (.lit (.int k m))) (aj:aJ st.env y=some (.lit (.int k n))) :
  bu P G o st (.lit (.int k (k.wrap (m+n)))):=jX ae U aj (fun w=>by simp[eqGuard,binOp,Op.intArith,go_sem]) rfl
theorem OG {k:IntKind} {n:Int} (ae:o.op = .binOp .sub T x y cX) (U:aJ st.env x=some (.lit (.int k m))) (aj:aJ st.env y=some (.lit (.int k n))) :
  bu P G o st (.lit (.int k (k.wrap (m - n)))):=jX ae U aj (fun w=>by simp[eqGuard,binOp,Op.intArith,go_sem]) rfl
theorem OH {k:IntKind} {n:Int} (ae:o.op = .binOp .mul T x y cX) (U:aJ st.env x=some (.lit (.int k m))) (aj:aJ st.env y=some (.lit (.int k n))) :
  bu P G o st (.lit (.int k (k.wrap (m * n)))):=jX ae U aj (fun w=>by simp[eqGuard,binOp,Op.intArith,go_sem]) rfl
theorem DF {k:IntKind} {n:Int} (ae:o.op = .binOp .quo T x y cX) (U:aJ st.env x=some (.lit (.int k m))) (aj:aJ st.env y=some (.lit (.int k n))) (hn:n≠0) :
  bu P G o st (.lit (.int k (k.wrap (m.tdiv n)))):=jX ae U aj (fun w=>by simp[eqGuard,binOp,Op.intDiv,go_sem,hn]) rfl
theorem DG {k:IntKind} {n:Int} (ae:o.op = .binOp .rem T x y cX) (U:aJ st.env x=some (.lit (.int k m))) (aj:aJ st.env y=some (.lit (.int k n))) (hn:n≠0) :
  bu P G o st (.lit (.int k (m.tmod n))):=jX ae U aj (fun w=>by simp[eqGuard,binOp,Op.intDiv,go_sem,hn]) rfl
theorem Wi {k:IntKind} {n:Int} (ae:o.op = .binOp .lss T x y cX) (U:aJ st.env x=some (.lit (.int k m))) (aj:aJ st.env y=some (.lit (.int k n))) :
  bu P G o st (ab (decide (m<n))):=jX ae U aj (fun w=>by simp[eqGuard,binOp,Op.intCmp,go_sem]) rfl
theorem Wj {k:IntKind} {n:Int} (ae:o.op = .binOp .leq T x y cX) (U:aJ st.env x=some (.lit (.int k m))) (aj:aJ st.env y=some (.lit (.int k n))) :
  bu P G o st (ab (decide (m<=n))):=jX ae U aj (fun w=>by simp[eqGuard,binOp,Op.intCmp,go_sem]) rfl
theorem Wk {k:IntKind} {n:Int} (ae:o.op = .binOp .gtr T x y cX) (U:aJ st.env x=some (.lit (.int k m))) (aj:aJ st.env y=some (.lit (.int k n))) :
  bu P G o st (ab (decide (n<m))):=jX ae U aj (fun w=>by simp[eqGuard,binOp,Op.intCmp,go_sem]) rfl
theorem Wl {k:IntKind} {n:Int} (ae:o.op = .binOp .geq T x y cX) (U:aJ st.env x=some (.lit (.int k m))) (aj:aJ st.env y=some (.lit (.int k n))) :
  bu P G o st (ab (decide (n<=m))):=jX ae U aj (fun w=>by simp[eqGuard,binOp,Op.intCmp,go_sem]) rfl
theorem OI (m n:Int):(m == n)=decide (m=n):=by rw[Bool.eq_iff_iff];simp
theorem Wm (m n:Int):(m != n)=decide (¬ m=n):=by rw[Bool.eq_iff_iff];simp
theorem Wn {k:IntKind} {n:Int} (ae:o.op = .binOp .eql T x y cX) (U:aJ st.env x=some (.lit (.int k m))) (aj:aJ st.env y=some (.lit (.int k n))) :
  bu P G o st (ab (decide (m=n))):=jX ae U aj (fun w=>by rw[<- OI];simp[eqGuard,binOp,Op.intCmp,go_sem]) rfl
theorem Wo {k:IntKind} {n:Int} (ae:o.op = .binOp .neq T x y cX) (U:aJ st.env x=some (.lit (.int k m))) (aj:aJ st.env y=some (.lit (.int k n))) :
  bu P G o st (ab (decide (¬ m=n))):=jX ae U aj (fun w=>by rw[<- Wm];simp[eqGuard,binOp,Op.intCmp,go_sem]) rfl
def lo (op:BinOp) (k:IntKind) (m n:Int):Int:=
 k.wrap (((match op with | .and=>BitVec.ofInt k.bits m &&& BitVec.ofInt k.bits n | .or=>BitVec.ofInt k.bits m ||| BitVec.ofInt k.bits n | .xor=>BitVec.ofInt k.bits m ^^^ BitVec.ofInt k.bits n|_=>BitVec.ofInt k.bits m &&& ~~~BitVec.ofInt k.bits n):BitVec k.bits).toNat:Int)
theorem Wp {k:IntKind} {n:Int} (ae:o.op = .binOp .and T x y cX) (U:aJ st.env x=some (.lit (.int k m))) (aj:aJ st.env y=some (.lit (.int k n))) :
  bu P G o st (.lit (.int k (lo .and k m n))):=jX ae U aj (fun w=>by simp[eqGuard,binOp,Op.intBits,lo,Sem.run_pure]) rfl
theorem Wq {k:IntKind} {n:Int} (ae:o.op = .binOp .or T x y cX) (U:aJ st.env x=some (.lit (.int k m))) (aj:aJ st.env y=some (.lit (.int k n))) :
  bu P G o st (.lit (.int k (lo .or k m n))):=jX ae U aj (fun w=>by simp[eqGuard,binOp,Op.intBits,lo,Sem.run_pure]) rfl
theorem Wr {k:IntKind} {n:Int} (ae:o.op = .binOp .xor T x y cX) (U:aJ st.env x=some (.lit (.int k m))) (aj:aJ st.env y=some (.lit (.int k n))) :
  bu P G o st (.lit (.int k (lo .xor k m n))):=jX ae U aj (fun w=>by simp[eqGuard,binOp,Op.intBits,lo,Sem.run_pure]) rfl
theorem Ws {k:IntKind} {n:Int} (ae:o.op = .binOp .andNot T x y cX) (U:aJ st.env x=some (.lit (.int k m))) (aj:aJ st.env y=some (.lit (.int k n))) :
  bu P G o st (.lit (.int k (lo .andNot k m n))):=jX ae U aj (fun w=>by simp[eqGuard,binOp,Op.intBits,lo,Sem.run_pure]) rfl
theorem Ir {k bn:IntKind} {n:Int} (ae:o.op = .binOp .shl T x y cX) (U:aJ st.env x=some (.lit (.int k m))) (aj:aJ st.env y=some (.lit (.int bn n))) (hn:0<=n) :
  bu P G o st (.lit (.int k (k.wrap (m * 2 ^ min n.toNat k.bits)))):=jX ae U aj (fun w=>by simp[eqGuard,binOp,Op.shift,go_sem,show ¬ n<0 by omega]) rfl
theorem Is {k bn:IntKind} {n:Int} (ae:o.op = .binOp .shr T x y cX) (U:aJ st.env x=some (.lit (.int k m))) (aj:aJ st.env y=some (.lit (.int bn n))) (hn:0<=n) :
  bu P G o st (.lit (.int k (m.fdiv (2 ^ min n.toNat k.bits)))):=jX ae U aj (fun w=>by simp[eqGuard,binOp,Op.shift,go_sem,show ¬ n<0 by omega]) rfl
theorem It (m n:ByteArray):(m.toList == n.toList)=decide (m=n):=by
 rw[Bool.eq_iff_iff];simp only[beq_iff_eq,decide_eq_true_eq,ByteArray.toList_eq];constructor
 ·intro h;cases m;cases n;simp_all
 ·intro h;rw[h]
theorem Wt (m n:ByteArray):(!(m.toList == n.toList))=decide (¬ m=n):=by rw[It];simp
theorem OJ {m n:ByteArray} (ae:o.op = .binOp .eql T x y cX) (U:aJ st.env x=some (.lit (.string m))) (aj:aJ st.env y=some (.lit (.string n))) :
  bu P G o st (ab (decide (m=n))):=jX ae U aj (fun w=>by rw[<- It];simp[eqGuard,binOp,Op.stringOp,Sem.run_pure]) rfl
theorem OK {m n:ByteArray} (ae:o.op = .binOp .neq T x y cX) (U:aJ st.env x=some (.lit (.string m))) (aj:aJ st.env y=some (.lit (.string n))) :
  bu P G o st (ab (decide (¬ m=n))):=jX ae U aj (fun w=>by rw[<- Wt];simp[eqGuard,binOp,Op.stringOp,Sem.run_pure]) rfl
theorem DH {m n:ByteArray} (ae:o.op = .binOp .add T x y cX) (U:aJ st.env x=some (.lit (.string m))) (aj:aJ st.env y=some (.lit (.string n))) (hn:m.size+n.size<=9223372036854775807) :
  bu P G o st (.lit (.string (m++n))):=jX ae U aj (fun w=>by
   have h:¬ ((m.size+n.size:Nat):Int) > IntKind.i64.max:=by
    have:IntKind.i64.max=9223372036854775807:=by decide
    rw[this];omega
   simp only[eqGuard,binOp,Op.stringOp];simp only[ah h]
   rfl) rfl
theorem Iu {op:UnOp} {r:Value} (ae:o.op = .unOp op T x) (U:aJ st.env x=some (.lit u)) (hr:∀ w,(Op.unary op u).run P w = .ok r w) (J:r.oneCell' = true):bu P G o st (.lit r):=
 iP fun F base w0 ρ a w hH ax=>⟨r,.pure (.lit _ J),fun aF=>by
  unfold execOp;rw[ae];simp only[];rw[fO (df ax U)]
  simp only[Sem.run_bind,hr aF];rfl⟩
theorem Wu {b:Bool} (ae:o.op = .unOp .not T x) (U:aJ st.env x=some (ab b)):bu P G o st (ab (!b)):=
 Iu ae U (fun _=>rfl) rfl
theorem Wv {k:IntKind} {n:Int} (ae:o.op = .unOp .neg T x) (U:aJ st.env x=some (.lit (.int k n))):bu P G o st (.lit (.int k (k.wrap (0 - n)))):=
 Iu ae U (fun _=>rfl) rfl
theorem Ww {k:IntKind} {n:Int} (ae:o.op = .unOp .xor T x) (U:aJ st.env x=some (.lit (.int k n))):bu P G o st (.lit (.int k (lo .xor k (if k.signed then -1 else k.max) n))):=
 Iu ae U (fun _=>rfl) rfl
theorem OL {k bn:IntKind} {n:Int} {d:TypeDesc} (ae:o.op = .convert T bT x) (U:aJ st.env x=some (.lit (.int k n))) (aY:P.underlying T=some d) (ja:P.underlying bT=some (.int bn)) :
  bu P G o st (.lit (.int bn (bn.wrap n))):=
 iP fun F base w0 ρ a w hH ax=>⟨_,.pure (.lit _ rfl),fun aF=>by
  unfold execOp;rw[ae];simp only[];rw[fO (df ax U)]
  simp[convert,run_underlying aY,run_underlying ja,Conv.intToInt,go_sem]⟩
theorem Wx {s:ByteArray} (ae:o.op = .convert T bT x) (U:aJ st.env x=some (.lit (.string s))) (aY:P.underlying T=some .string) (ja:P.underlying bT=some .string) :
  bu P G o st (.lit (.string s)):=
 iP fun F base w0 ρ a w hH ax=>⟨_,.pure (.lit _ rfl),fun aF=>by
  unfold execOp;rw[ae];simp only[];rw[fO (df ax U)]
  simp[convert,run_underlying aY,run_underlying ja,go_sem]⟩
theorem Wy {vs:List V} {v:V} (ae:o.op = .extract x i) (U:aJ st.env x=some (.bN vs)) (hi:vs[i]? = some v):bu P G o st v:=
 iP fun F base w0 ρ a w hH ax=>by
  have h:=df ax U;generalize hu:a.eval x=u at h
  cases h with
  | pure h=>cases h
  | @bN _ us hn h=>
   have bW:i<vs.length:=(ko.1 hi).1;have:=h i bW;have e:bw vs i=v:=by unfold bw;rw[bZ,hi];rfl
   rw[e] at this;refine ⟨_,this,fun aF=>?_⟩;unfold execOp;rw[ae];simp only[];rw[hu];have a7:us[i]? = some (us.getD i undef):=by rw[gg,l2 (by omega)];rfl
   simp only[Instr.extract,a7];rfl
theorem vw {b:Builtin} {v:V} (ae:o.op = .call { callee:=.builtin b,args:=#[x],argTypes:=ts }) (hr:∀ F base w0 ρ a w,HRel0 F base ρ st.heap st.next w0 w->e0 ρ (bs F ρ st.heap) w st.af st.env a -> ∃ r,cT ρ (bs F ρ st.heap) w v r /\ ∀ cs aF,(builtin b ts o.type cs #[a.eval x]).run P aF = .ok (.value r) aF):bu P G o st v:=
 iP fun F base w0 ρ a w hH ax=>by
  obtain ⟨r,J,aa⟩:=hr F base w0 ρ a w hH ax;refine ⟨r,J,fun aF=>?_⟩;unfold execOp;rw[ae];simp only[resolve,invoke,Sem.run_bind,Sem.run_pure,Result.andThen_ok,List.map_toArray,iM,sZ];exact aa _ aF
theorem OM {b:Builtin} {v:V} (ae:o.op = .call { callee:=.builtin b,args:=#[x,y],argTypes:=ts }) (hr:∀ F base w0 ρ a w,HRel0 F base ρ st.heap st.next w0 w->e0 ρ (bs F ρ st.heap) w st.af st.env a -> ∃ r,cT ρ (bs F ρ st.heap) w v r /\ ∀ cs aF,(builtin b ts o.type cs #[a.eval x,a.eval y]).run P aF = .ok (.value r) aF):bu P G o st v:=
 iP fun F base w0 ρ a w hH ax=>by
  obtain ⟨r,J,aa⟩:=hr F base w0 ρ a w hH ax;refine ⟨r,J,fun aF=>?_⟩;unfold execOp;rw[ae];simp only[resolve,invoke,Sem.run_bind,Sem.run_pure,Result.andThen_ok,List.map_toArray,iM,sZ];exact aa _ aF
theorem Iv {s:ByteArray} (ae:o.op = .call { callee:=.builtin .len,args:=#[x],argTypes:=#[t] }) (U:aJ st.env x=some (.lit (.string s))) (ht:P.underlying t=some .string) :
  bu P G o st (I s.size):=
 vw ae fun F base w0 ρ a w hH ax=>⟨_,.pure (.lit _ rfl),fun cs aF=>by
  rw[fO (df ax U)]
  simp[builtin,Builtin.len_,run_underlying ht,Sem.run_bind,Sem.run_pure,goInt]⟩
theorem xx {e:TypeId} (ht:P.underlying t=some (.slice e)) (A:Option Addr) (n c:Nat) (ty:TypeId) (cs:Array Bool) (w:World):(builtin .len #[t] ty cs #[.slice A n c]).run P w = .ok (.value (.int .i64 n)) w:=by
 simp[builtin,Builtin.len_,run_underlying ht,Sem.run_bind,Sem.run_pure,goInt]
theorem Wz {e:TypeId} {l:List (List V)} (ae:o.op = .call { callee:=.builtin .len,args:=#[x],argTypes:=#[t] }) (U:aJ st.env x=some (.ro l)) (ht:P.underlying t=some (.slice e)) :
  bu P G o st (I l.length):=
 vw ae fun F base w0 ρ a w hH ax=>⟨_,.pure (.lit _ rfl),fun cs aF=>by
  have h:=df ax U;generalize a.eval x=u at h
  cases h with
  | pure h=>cases h with
   | ro=>exact xx ht _ _ _ _ _ _⟩
theorem WA {e:TypeId} {c:Nat} (ae:o.op = .call { callee:=.builtin .len,args:=#[x],argTypes:=#[t] }) (U:aJ st.env x=some (.lit (.slice A n c))) (ht:P.underlying t=some (.slice e)) :
  bu P G o st (I n):=
 vw ae fun F base w0 ρ a w hH ax=>⟨_,.pure (.lit _ rfl),fun cs aF=>by
  rw[fO (df ax U)];exact xx ht _ _ _ _ _ _⟩
theorem HRel0.row {heap:List (Nat×Option aT)} {next:Nat} (h:HRel0 F base ρ heap next w0 w) {e:TypeId} {l:List (List V)} (hh:aM heap id=some (.row e s l)) :
  ∃ A c,ρ id=some (.slice A l.length c):=by
 obtain ⟨_,v,xs,J,⟨aa,_⟩,_⟩:=h.cJ _ _ hh;rcases aa.2 with⟨rfl,ai⟩ | ⟨g,cap,cQ,rfl,_⟩
 ·exact⟨_,_,by rw[ai];exact J⟩
 ·exact⟨_,_,J⟩
theorem HRel0.dY {heap:List (Nat×Option aT)} {next:Nat} (h:HRel0 F base ρ heap next w0 w) {l:List (List V)} (hh:aM heap id=some (.dY l)) :
  ∃ A c,ρ id=some (.slice A l.length c):=by
 obtain ⟨v,J,aa,_⟩:=h.cJ _ _ hh
 cases aa with
 | ro=>exact⟨_,_,J⟩
theorem j8 (h:cT ρ S w (.own id) u):ρ id=some u:=by
 cases h with
 | pure h=>cases h
 | own h=>exact h
theorem Mj {e:TypeId} {l:List (List V)} (ae:o.op = .call { callee:=.builtin .len,args:=#[x],argTypes:=#[t] }) (U:aJ st.env x=some (.own id)) (hh:aM st.heap id=some (.row e s l)) (ht:P.underlying t=some (.slice np)) :
  bu P G o st (I l.length):=
 vw ae fun F base w0 ρ a w hH ax=>⟨_,.pure (.lit _ rfl),fun cs aF=>by
  have h:=j8 (df ax U);obtain ⟨A,c,aa⟩:=hH.row hh;rw[h] at aa;injection aa with aa
  rw[aa];exact xx ht _ _ _ _ _ _⟩
theorem WB {l:List (List V)} (ae:o.op = .call { callee:=.builtin .len,args:=#[x],argTypes:=#[t] }) (U:aJ st.env x=some (.own id)) (hh:aM st.heap id=some (.dY l)) (ht:P.underlying t=some (.slice np)) :
  bu P G o st (I l.length):=
 vw ae fun F base w0 ρ a w hH ax=>⟨_,.pure (.lit _ rfl),fun cs aF=>by
  have h:=j8 (df ax U);obtain ⟨A,c,aa⟩:=hH.dY hh;rw[h] at aa;injection aa with aa
  rw[aa];exact xx ht _ _ _ _ _ _⟩
theorem WC {e:TypeId} (ae:o.op = .call { callee:=.builtin .len,args:=#[x],argTypes:=#[t] }) (ht:P.underlying t=some (.array n e)) :
  bu P G o st (I n):=
 vw ae fun F base w0 ρ a w hH ax=>⟨_,.pure (.lit _ rfl),fun cs aF=>by
  simp[builtin,Builtin.len_,run_underlying ht,Sem.run_bind,Sem.run_pure,goInt]⟩
theorem yl {k:IntKind} {n:Int} (ae:o.op = .call { callee:=.builtin .max,args:=#[x,y],argTypes:=ts }) (U:aJ st.env x=some (.lit (.int k m))) (aj:aJ st.env y=some (.lit (.int k n))) :
  bu P G o st (.lit (.int k (max m n))):=
 OM ae fun F base w0 ρ a w hH ax=>⟨_,.pure (.lit _ rfl),fun cs aF=>by
  rw[fO (df ax U),fO (df ax aj)];have e:max m n=if n > m then n else m:=by split <;> omega
  rw[e]
  simp[builtin,Builtin.max_,Builtin.max2,Sem.run_pure]⟩
theorem WD {k:IntKind} {n:Int} (ae:o.op = .call { callee:=.builtin .min,args:=#[x,y],argTypes:=ts }) (U:aJ st.env x=some (.lit (.int k m))) (aj:aJ st.env y=some (.lit (.int k n))) :
  bu P G o st (.lit (.int k (min m n))):=
 OM ae fun F base w0 ρ a w hH ax=>⟨_,.pure (.lit _ rfl),fun cs aF=>by
  rw[fO (df ax U),fO (df ax aj)];have e:min m n=if n<m then n else m:=by split <;> omega
  rw[e]
  simp[builtin,Builtin.min_,Builtin.min2,Sem.run_pure]⟩
theorem sz (b o n:Nat):(Addr.mk b o none).add n=⟨b,o+n,none⟩:=by
 unfold Addr.add;by_cases h:n=0 <;> simp[h]
theorem WE {fields:Array Field} {f:Nat} {fd:Field} {xy:TypeInfo} (aY:P.underlying T=some (.struct fields)) (hf:fields[f]? = some fd) (hi:P.info? fd.type=some xy) (hn:xy.size≠0) (b off:Nat) (w:World) :
  (Instr.fieldAt T (.pointer (some ⟨b,off,none⟩)) f).run P w = .ok (.pointer (some ⟨b,off+fd.offset,none⟩)) w:=by
 simp[Instr.fieldAt,Instr.sureAddr,fieldPlace,sizeOf,typeInfo,run_underlying aY,hf,hi,hn,Sem.run_bind,Sem.run_pure,program,Sem.run,sz]
def zK (P:Program) (T:TypeId) (f:Nat):Option Nat:=
 match P.underlying T with
 | some (.struct fields)=>match fields[f]? with
  | some fd=>match P.info? fd.type with
   | some xy=>bif Nat.beq xy.size 0 then none else some fd.offset
   | none=>none
  | none=>none
 | _=>none
theorem ON {f:Nat} (h:zK P T f=some n) (b off:Nat) (w:World) :
  (Instr.fieldAt T (.pointer (some ⟨b,off,none⟩)) f).run P w = .ok (.pointer (some ⟨b,off+n,none⟩)) w:=by
 unfold zK at h;split at h
 ·rename_i fields aY;split at h
  ·rename_i fd hf;split at h
   ·rename_i xy hi
    cases hb:Nat.beq xy.size 0 with
    | true=>rw[hb] at h;cases h
    | false=>
     rw[hb] at h;simp only[cond_false,ck] at h;subst h;exact WE aY hf hi (fun e=>by rw[e] at hb;cases hb) b off w
   ·cases h
  ·cases h
 ·cases h
theorem pR (h:cT ρ S w (.ptr id i s j) u):∃ r b,ρ id=some r/\dU r=some b/\u = .pointer (some ⟨b,i * s+j,none⟩):=by
 cases h with
 | pure h=>cases h
 | ptr h hb=>exact⟨_,_,h,hb,rfl⟩
theorem Iw {cs:List V} (h:cT ρ S w (.fk cs) u):∃ (b off:Nat) (us:Nat->Value),u = .pointer (some ⟨b,off,none⟩)/\(0<cs.length->S b)/\(∀ j,j<cs.length->w.cell? ⟨b,off+j,none⟩=some (us j)) /\ ∀ j,j<cs.length->gn S w (bw cs j) (us j):=by
 cases h with
 | pure h=>cases h
 | fk us hS hc hr=>exact⟨_,_,us,rfl,hS,hc,hr⟩
theorem zL (cs:List V) (n j:Nat):bw (cs.drop n) j=bw cs (n+j):=by
 unfold bw;rw[bZ,bZ,List.getElem?_drop]
theorem WG {cs:List V} {us:Nat->Value} (n:Nat) (hS:0<cs.length->S b) (hc:∀ j,j<cs.length->w.cell? ⟨b,off+j,none⟩=some (us j)) (hr:∀ j,j<cs.length->gn S w (bw cs j) (us j)) :
  cT ρ S w (.fk (cs.drop n)) (.pointer (some ⟨b,off+n,none⟩)):=by
 refine .fk (fun j=>us (n+j)) (fun h=>hS (by simp at h;omega)) (fun j ad=>?_) (fun j ad=>?_)
 ·simp only[mJ] at ad;rw[Nat.add_assoc];exact hc (n+j) (by omega)
 ·simp only[mJ] at ad;rw[zL];exact hr (n+j) (by omega)
theorem WH {f:Nat} (ae:o.op = .fieldAddr T x f) (U:aJ st.env x=some (.ptr id i s j)) (hf:zK P T f=some n):bu P G o st (.ptr id i s (j+n)):=
 iP fun F base w0 ρ a w hH ax=>by
  obtain ⟨r,b,J,aa,az⟩:=pR (df ax U);refine ⟨_,.ptr J aa,fun aF=>?_⟩;unfold execOp;rw[ae];simp only[];rw[az];simp only[Sem.run_bind,ON hf,Nat.add_assoc];rfl
theorem WI {f:Nat} {cs:List V} (ae:o.op = .fieldAddr T x f) (U:aJ st.env x=some (.fk cs)) (hf:zK P T f=some n):bu P G o st (.fk (cs.drop n)):=
 iP fun F base w0 ρ a w hH ax=>by
  obtain ⟨b,off,us,J,aa,az,bk⟩:=Iw (df ax U);refine ⟨_,WG n aa az bk,fun aF=>?_⟩;unfold execOp;rw[ae];simp only[];rw[J];simp only[Sem.run_bind,ON hf];rfl
end
section
variable {P:Program} {G:List Nat} {o:Oper} {st:aW}
def dr (P:Program) (T:TypeId):Option Nat:=(P.info? T).map (·.size)
theorem tM {T:Nat} (h:dr P T=some n) (w:World):(sizeOf T).run P w = .ok n w:=by
 unfold dr at h
 cases hi:P.info? T with
 | none=>rw[hi] at h;cases h
 | some i=>
  rw[hi] at h;injection h with h;simp[sizeOf,typeInfo,hi,Sem.run_bind,Sem.run_pure,program,Sem.run,h]
def lp (P:Program) (T:TypeId):Option Bool:=
 match P.underlying T with
 | some (.struct _)=>some true
 | some (.array _ _)=>some true
 | some _=>some false
 | none=>none
theorem DI {b:Bool} (h:lp P T=some b) (w:World):(isAgg T).run P w = .ok b w:=by
 unfold lp at h
 cases hu:P.underlying T with
 | none=>rw[hu] at h;cases h
 | some d=>
  rw[hu] at h
  cases d <;> (injection h with h;subst h;simp[isAgg,run_underlying hu,Sem.run_bind,Sem.run_pure])
theorem gV {α:Type} [Inhabited α] (f:α->List V) {l:List α} (h:i<l.length):bb (l.map f) i=f (l.getD i default):=by
 unfold bb;rw[bZ,qn,eB h,bZ,eB h];rfl
theorem Ix {T:Nat} (aY:P.underlying T=some (.slice e)) (aw:dr P e=some s) (b off len c n:Nat) (k:IntKind) (hn:n<len) (w:World) :
  (Instr.indexAt T (.slice (some ⟨b,off,none⟩) len c) (.int k n)).run P w = .ok (.pointer (some ⟨b,off+n * s,none⟩)) w:=by
 simp[Instr.indexAt,asIntOf,run_underlying aY,tM aw,Sem.run_bind,hn,sz]
theorem vm {T:Nat} {l:List (List V)} {k:IntKind} {cs:List V} (ae:o.op = .indexAddr T x y) (U:aJ st.env x=some (.ro l)) (aj:aJ st.env y=some (.lit (.int k m))) (hm:m=(n:Int)) (hn:n<l.length) (aY:P.underlying T=some (.slice e)) (aw:dr P e=some s) (ao:cs.length=s) (he:bb l n=cs):bu P G o st (.fk cs):=
 iP fun F base w0 ρ a w hH ax=>by
  subst he hm;have h:=df ax U;generalize hu:a.eval x=u at h
  cases h with
  | pure h=>cases h with
   | ro l A c dP b off us hc B6 ar dC cZ kX hrel=>
    obtain ⟨Iy,Iz⟩:=dC (by omega);have sA:dP = s:=by rw[<- ao,cZ n hn]
    subst sA;refine ⟨.pointer (some ⟨b,off+n * dP,none⟩),.fk (fun j=>us n j) (fun _=>Iz) (fun j ad=>kX n j hn (by omega)) (fun j ad=>hrel n j hn (by omega)),fun aF=>?_⟩;unfold execOp;rw[ae];simp only[];rw[hu,fO (df ax aj),Iy];simp only[Sem.run_bind,Ix aY aw _ _ _ _ _ _ hn];rfl
theorem Ci {T kp:Nat} {l:List (List V)} {k:IntKind} (ae:o.op = .indexAddr T x y) (U:aJ st.env x=some (.own id)) (hh:aM st.heap id=some (.row kp s l)) (aj:aJ st.env y=some (.lit (.int k m))) (hm:m=(n:Int)) (hn:n<l.length) (aY:P.underlying T=some (.slice e)) (aw:dr P e=some s):bu P G o st (.ptr id n s 0):=
 iP fun F base w0 ρ a w hH ax=>by
  subst hm;have h:=j8 (df ax U);obtain ⟨_,v,xs,J,⟨aa,_⟩,_⟩:=hH.cJ _ _ hh;rw[h] at J;injection J with J;rcases aa.2 with⟨_,ai⟩ | ⟨g,cap,cQ,ak,_⟩
  ·omega
  ·rw[ak] at J;refine ⟨.pointer (some ⟨g,n * s+0,none⟩),.ptr (b:=g) h (by rw[J];rfl),fun aF=>?_⟩;unfold execOp;rw[ae];simp only[];rw[J,fO (df ax aj)];simp only[Sem.run_bind,Ix aY aw _ _ _ _ _ _ hn,fy,kq];rfl
theorem WJ {T N:Nat} (aY:P.underlying T=some (.array N e)) (aw:dr P e=some s) (b off n:Nat) (k:IntKind) (hn:n<N) (w:World) :
  (Instr.indexAt T (.pointer (some ⟨b,off,none⟩)) (.int k n)).run P w = .ok (.pointer (some ⟨b,off+n * s,none⟩)) w:=by
 simp[Instr.indexAt,asIntOf,Instr.sureAddr,run_underlying aY,tM aw,Sem.run_bind,hn,sz]
theorem OO {T N z:Nat} {k:IntKind} (ae:o.op = .indexAddr T x y) (U:aJ st.env x=some (.ptr id i z j)) (aj:aJ st.env y=some (.lit (.int k m))) (hm:m=(n:Int)) (aY:P.underlying T=some (.array N e)) (hn:n<N) (aw:dr P e=some s):bu P G o st (.ptr id i z (j+n * s)):=
 iP fun F base w0 ρ a w hH ax=>by
  subst hm;obtain ⟨r,b,J,aa,az⟩:=pR (df ax U);refine ⟨_,.ptr J aa,fun aF=>?_⟩;unfold execOp;rw[ae];simp only[];rw[az,fO (df ax aj)];simp only[Sem.run_bind,WJ aY aw _ _ _ _ hn,Nat.add_assoc];rfl
theorem CA {T:Nat} {s:ByteArray} {k:IntKind} (ae:o.op = .index T x y) (U:aJ st.env x=some (.lit (.string s))) (aj:aJ st.env y=some (.lit (.int k m))) (hm:m=(n:Int)) (hn:n<s.size) (aY:P.underlying T=some .string):bu P G o st (.lit (.int .u8 ((s.data.toList.getD n 0).toNat:Int))):=
 iP fun F base w0 ρ a w hH ax=>by
  subst hm;refine ⟨_,.pure (.lit _ rfl),fun aF=>?_⟩;unfold execOp;rw[ae];simp only[];rw[fO (df ax U),fO (df ax aj)];have e:s[n]? = some (s.data.toList.getD n 0):=by
   have aa:s[n]? = some (s[n]'hn):=getElem?_pos s n hn;rw[aa,bZ,eB (by simpa using hn),tn];rfl
  simp[Instr.index,asIntOf,run_underlying aY,Sem.run_bind,Sem.run_pure,e]
theorem OP (aY:lp P T=some false) (h:w.cell? ⟨b,off,none⟩=some u):(Instr.loadAt T (.pointer (some ⟨b,off,none⟩))).run P w = .ok u w:=by
 simp[Instr.loadAt,Instr.sureAddr,loadVar,DI aY,Sem.run_bind,load,Sem.run,h]
theorem OQ (aY:lp P T=some true) (hn:dr P T=some n) (hu:us.size=n) (h:∀ j,j<n->w.cell? ⟨b,off+j,none⟩=some (us.getD j undef)) :
  (Instr.loadAt T (.pointer (some ⟨b,off,none⟩))).run P w = .ok (.agg us) w:=by
 have ao:=run_loadCells_list (P:=P) (w:=w) ⟨b,off,none⟩ us.toList (fun j v ad=>by
  rw[sz];have bW:j<us.toList.length:=(ko.1 ad).1;rw[h j (by simp at bW;omega),<- ad];simp at bW
  simp[bW])
 simp only[pQ,hu] at ao;simp[Instr.loadAt,Instr.sureAddr,loadVar,DI aY,tM hn,Sem.run_bind,ao]
def Reads (G:List Nat) (st:aW) (v:V) (cs:List V):Prop:=
 ∀ F base w0 ρ w u,HRel0 F base ρ st.heap st.next w0 w->vv st.heap G=true->cT ρ (bs F ρ st.heap) w v u ->
  ∃ (b off:Nat) (us:Nat->Value),u = .pointer (some ⟨b,off,none⟩)/\(∀ j,j<cs.length->cT ρ (bs F ρ st.heap) w (bw cs j) (us j)) /\ ∀ aF,Ext (u5 ρ G) w aF -> ∀ j,j<cs.length->aF.cell? ⟨b,off+j,none⟩=some (us j)
theorem ei {v u:V} {cs:List V} (ae:o.op = .load T x) (U:aJ st.env x=some v) (aY:lp P T=some false) (hr:Reads G st v cs) (hc:cs[0]? = some u):bu P G o st u:=
 fun F base w0 ρ a w hH ax fS=>by
  obtain ⟨b,off,us,J,aa,az⟩:=hr F base w0 ρ w _ hH fS (df ax U);have bW:0<cs.length:=(ko.1 hc).1;have e:bw cs 0=u:=by unfold bw;rw[bZ,hc];rfl
  refine ⟨us 0,by rw[<- e];exact aa 0 bW,fun aF jo=>?_⟩;unfold execOp;rw[ae];simp only[];rw[J];have:=az aF jo 0 bW;simp only[kq] at this;simp only[Sem.run_bind,OP aY this];rfl
theorem ep {v:V} {cs:List V} (ae:o.op = .load T x) (U:aJ st.env x=some v) (aY:lp P T=some true) (hn:dr P T=some n) (hr:Reads G st v cs) (hc:n<=cs.length):bu P G o st (.agg (cs.take n)):=
 fun F base w0 ρ a w hH ax fS=>by
  obtain ⟨b,off,us,J,aa,az⟩:=hr F base w0 ρ w _ hH fS (df ax U);refine ⟨.agg ((Array.range n).map us),.agg (by simp;omega) (fun j ad=>?_),fun aF jo=>?_⟩
  ·simp only[kO] at ad;have aI:bw (cs.take n) j=bw cs j:=by unfold bw;rw[bZ,bZ,n7,al (by omega)]
   have a7:((Array.range n).map us).getD j undef=us j:=by simp[show j<n by omega]
   rw[aI,a7];exact aa j (by omega)
  ·unfold execOp;rw[ae];simp only[];rw[J]
   have:=OQ (P:=P) (T:=T) (n:=n) aY hn (b:=b) (off:=off) (us:=(Array.range n).map us) (w:=aF) (by simp) (fun j ad=>by
    rw[az aF jo j (by omega)];simp[ad])
   simp only[Sem.run_bind,this];rfl
theorem Hx {heap:List (Nat×Option aT)} {G:List Nat} (fS:vv heap G=true) (h:bs F ρ heap b):¬ u5 ρ G b:=by
 rintro ⟨id,u,hm,hu,hb⟩;obtain ⟨B,an,ae⟩:=Iq fS id hm;exact h.2 id B u an ae hu hb
theorem Ext.cell {B:Nat->Prop} (h:Ext B w aF) {o:Nat} (an:¬ B b) (hc:w.cell? ⟨b,o,none⟩=some u):aF.cell? ⟨b,o,none⟩=some u:=by
 have:=h.block b (qK hc) an;rw[<- hc];simp[World.cell?,this]
theorem WK {cs:List V}:Reads G st (.fk cs) cs:=
 fun F base w0 ρ w u hH fS ak=>by
  obtain ⟨b,off,us,J,aa,az,bk⟩:=Iw ak;exact⟨b,off,us,J,fun j ad=>.pure (bk j ad),fun aF jo j ad=>jo.cell (Hx fS (aa (by omega))) (az j ad)⟩
def qB (id:Nat):List Nat->Bool
 | []=>true
 | x :: r=>bif Nat.beq x id then false else qB id r
theorem OR {id:Nat}:∀ {G:List Nat},qB id G=true->id ∉ G
 | [],_=>by simp
 | x :: r,h=>by
  simp only[qB] at h
  cases hb:Nat.beq x id with
  | true=>rw[hb] at h;cases h
  | false=>
   rw[hb] at h;simp only[hX,not_or];exact⟨fun e=>by rw[e] at hb;simp at hb,OR h⟩
theorem y6 {heap:List (Nat×Option aT)} {next:Nat} (hH:HRel0 F base ρ heap next w0 w) {G:List Nat} (fS:vv heap G=true) {B:aT} (hid:qB id G=true) (an:aM heap id=some B) (ae:B.owns=true) (hu:ρ id=some u) (hb:dU u=some b):¬ u5 ρ G b:=by
 rintro ⟨i,v,hm,ak,WL⟩;obtain ⟨bd,b0,dK⟩:=Iq fS i hm;exact OR hid (hH.inj i id bd B v u b b0 an dK ae ak hu WL hb ▸ hm)
theorem OS {t:Nat} {cs:List V} (hh:aM st.heap id=some (.box t cs)) (av:qB id G=true):Reads G st (.ptr id 0 s j) (cs.drop j):=
 fun F base w0 ρ w u hH fS ak=>by
  obtain ⟨r,b,J,aa,az⟩:=pR ak;obtain ⟨fD,us,aI,a7,cC,eI,fZ⟩:=hH.cJ _ _ hh;rw[J] at aI;injection aI with aI;subst aI;simp only[dU,ck] at aa;subst aa;refine ⟨fD,j,fun i=>us.getD (j+i) undef,by rw[az];simp,fun i hi=>?_,fun aF jo i hi=>?_⟩
  ·rw[zL];simp only[mJ] at hi;exact(fZ (j+i) (by omega)).1
  ·simp only[mJ] at hi;refine jo.cell (y6 hH fS av hh rfl J rfl) ?_;unfold World.cell?;simp only[cC,Option.isSome_none,Bool.false_eq_true,if_false];rw[l2 (by omega)];congr 1;simp[show j+i<us.size by omega]
theorem IA {base:Nat} {v:Value} {xs:List Value} (h:w.ownsRow base e s v n xs) (hb:dU v=some g) (hu:xs[i * s+j]? = some u):w.cell? ⟨g,i * s+j,none⟩=some u:=by
 have:=h.cells (g:=g) (by rcases h.2 with⟨rfl,_⟩ | ⟨DJ,_,_,rfl,_⟩ <;> simp_all [dU,Value.ownBlock]) _ _ hu;rwa [sz,fy] at this
theorem pw {l:List (List V)} {cs:List V} (hh:aM st.heap id=some (.row e s l)) (hi:i<l.length) (av:qB id G=true) (he:bb l i=cs):Reads G st (.ptr id i s j) (cs.drop j):=
 fun F base w0 ρ w u hH fS ak=>by
  subst he;obtain ⟨r,b,J,aa,az⟩:=pR ak;obtain ⟨va,v,xs,aI,⟨a7,_⟩,cC,eI⟩:=hH.cJ _ _ hh;rw[J] at aI;injection aI with aI;subst aI;have hlen:(bb l i).length=s:=cC i hi;refine ⟨b,i * s+j,fun k=>xs.getD (i * s+j+k) undef,az,fun k ag=>?_,fun aF jo k ag=>?_⟩
  ·rw[zL];simp only[mJ] at ag;obtain ⟨u,hu,ar,_⟩:=eI i (j+k) hi (by omega);have:xs.getD (i * s+j+k) undef=u:=by rw[bZ,Nat.add_assoc,hu];rfl
   show cT _ _ _ _ (xs.getD (i * s+j+k) undef);rw[this];exact .pure ar
  ·simp only[mJ] at ag;obtain ⟨u,hu,ar,_⟩:=eI i (j+k) hi (by omega);have e:xs.getD (i * s+j+k) undef=u:=by rw[bZ,Nat.add_assoc,hu];rfl
   show _=some (xs.getD (i * s+j+k) undef);rw[e];refine jo.cell (y6 hH fS av hh rfl J aa) ?_;rw[Nat.add_assoc];exact IA a7 aa hu
end
section
variable {P:Program} {o:Oper} {st:aW} {n0:Nat}
def jZ (ρ:Nat->Option Value) (n:Nat) (u:Value):Nat->Option Value:=fun id=>if id=n then some u else ρ id
theorem gO (ρ:Nat->Option Value) (n:Nat) (u:Value):jZ ρ n u n=some u:=al rfl
theorem jd (ρ:Nat->Option Value) (u:Value) (h:id≠n):jZ ρ n u id=ρ id:=ah h
def aW.put (st:aW) (d:Option Tmp) (v:V):aW:=
 match d with
 | some d=>{ st with env:=(d,v) :: st.env }
 | none=>st
def aW.newAt (st:aW) (k:Nat) (d:Tmp) (v:V) (B:aT):aW:={ env:=(d,v) :: st.env,heap:=(k,some B) :: st.heap,next:=st.next,af:=st.af }
def aW.new (st:aW) (d:Tmp) (v:V) (B:aT):aW:={ env:=(d,v) :: st.env,heap:=(st.next,some B) :: st.heap,next:=st.next+1,af:=st.af }
def IB (k:Nat) (F:Nat->Prop) (base:Nat->Prop) (w0:World) (ρ:Nat->Option Value) (w:World) (bq:aW) (hx:Act) (aF:World):Prop:=
 ∃ bl,eA F base bl bq.heap bq.next w0 aF /\ e0 bl (bs F bl bq.heap) aF bq.af bq.env hx /\ (∀ id u,ρ id=some u->bl id=some u)/\(∀ id,id≠k->bl id=ρ id)
def kU (P:Program) (k:Nat) (o:Oper) (st bq:aW):Prop:=
 ∀ F base w0 ρ a w,eA F base ρ st.heap st.next w0 w->e0 ρ (bs F ρ st.heap) w st.af st.env a->ρ k=none->k<st.next->o.wp P a w (IB k F base w0 ρ w bq) (fun _ _ _=>False)
theorem tN (h:∀ a w,K a w->qC a w) (hh:o.wp P a w K (fun _ _ _=>False)):o.wp P a w qC (fun _ _ _=>False):=by
 unfold Oper.wp at *;generalize (execOp a.eval o).run P w=r at *
 cases r with
 | ok n aF=>
  cases n <;> simp only[Oper.upon] at hh ⊢ <;>
   first
    | exact h _ _ hh
    | exact Calls.mono hh (fun e Nt he=>by cases e <;> first|exact h _ _ he|exact he)
    | exact Rows.mono hh (fun _ _ he=>h _ _ he)
 | halt x aF=>cases x <;> simp only[Oper.upon] at hh ⊢ <;> exact hh
theorem qj {bq:aW} (hn0:n0<=st.next) (h:kU P st.next o { st with next:=st.next+1 } bq):GStep P n0 o st bq:=fun F base w0 ρ a w hH ax=>by
 have fY:ρ st.next=none:=by
  cases h:ρ st.next with
  | none=>rfl
  | some x=>exact absurd (hH.sup _ _ h).1 (Nat.lt_irrefl _)
 refine tN ?_ (h F base w0 ρ a w ⟨⟨hH.below,hH.fl,fun id u h=>⟨Nat.lt_succ_of_lt (hH.sup id u h).1,(hH.sup id u h).2⟩,hH.inj,hH.cJ⟩,hH.dX⟩ ax fY (Nat.lt_succ_self _));rintro hx aF ⟨bl,J,aa,az,bk⟩;exact⟨bl,J,aa,az,fun id hid=>bk id (by omega)⟩
theorem cl {heap:List (Nat×Option aT)} {B:Option aT}:aM ((n,B) :: heap) id=if n=id then B else aM heap id:=by
 simp only[aM];by_cases h:n=id
 ·subst h;simp
 ·rw[ah h];have hb:Nat.beq n id=false:=by
   cases hb:Nat.beq n id
   ·rfl
   ·exact absurd (iF hb) h
  rw[hb];rfl
theorem u6 {k:Nat} {B:aT} {v:V} (hH:eA F base ρ st.heap st.next w0 w) (ax:e0 ρ (bs F ρ st.heap) w st.af st.env a) (fY:ρ k=none) (ag:k<st.next) (hw:Below w.heap.size w aF) (hu:B.owns=true -> ∀ b,dU u=some b->w.heap.size<=b) (hd:d<st.af) (J:u.oneCell' = true) (an:∀ S,(∀ b,bs F ρ st.heap b->b<w.heap.size->S b)->(B.owns=false -> ∀ b,w.heap.size<=b->S b)->dl (bs F ρ st.heap) w aF -> rq base (jZ ρ k u) S aF k B) (ak:∀ S,cT (jZ ρ k u) S aF v u):IB k F base w0 ρ w (st.newAt k d v B) (a.put (some d) u) aF:=by
 have kG:∀ id x,ρ id=some x->jZ ρ k u id=some x:=fun id x h=>by rw[jd _ _ (fun e=>by rw[e,fY] at h;cases h)];exact h
 have o4:B.owns=false -> ∀ b,w.heap.size<=b->bs F (jZ ρ k u) ((k,some B) :: st.heap) b:=by
  intro ae b hb;refine ⟨hH.dX b (hH.fl b hb),fun id bd dD b0 dK c2 hl=>?_⟩;rw[cl] at b0;by_cases e:k=id
  ·rw[al e] at b0;injection b0 with b0;subst b0;rw[ae] at dK;cases dK
  ·rw[ah e] at b0;rw[jd _ _ (Ne.symm e)] at c2;have:=(hH.owned b0 dK c2 hl).2;omega
 obtain ⟨n5,aa,az⟩:=hH.step (bl:=jZ ρ k u) (cB:=(k,some B) :: st.heap) (next':=st.next) (aF:=aF) k none
  ⟨hw.os,hw.tape,hw.output,hw.size,fun k ag _=>hw.block k ag⟩ (fun k h=>by cases h) kG
  (fun id x h=>by
   by_cases e:id=k
   ·rw[e,gO] at h;injection h with h;subst h;exact⟨by omega,J⟩
   ·rw[jd _ _ e] at h;have:=hH.sup _ _ h;exact⟨by omega,this.2⟩)
  (fun id bd ct b0=>by
   rw[cl,ah (Ne.symm ct)] at b0;refine ⟨b0,?_⟩;have:=hH.cJ _ _ b0
   cases bd with
   | box t cs=>obtain ⟨b,us,J,_⟩:=this;exact⟨_,J,fun _ _ _ h=>by cases h⟩
   | row e s l=>obtain ⟨_,v,xs,J,_⟩:=this;exact⟨_,J,fun _ _ _ h=>by cases h⟩
   | dY l=>obtain ⟨v,J,_⟩:=this;exact⟨_,J,fun _ _ _ h=>by cases h⟩
   | map q es=>obtain ⟨b,_,_,J,_⟩:=this;exact⟨_,J,fun _ _ _ h=>by cases h⟩
   | obj o=>obtain ⟨b,J,_⟩:=this;exact⟨_,J,fun _ _ _ h=>by cases h⟩
   | mV be lL=>obtain ⟨b,_,_,_,J,_⟩:=this;exact⟨_,J,fun _ _ _ h=>by cases h⟩
   | ch e s l=>obtain ⟨_,v,xs,J,_⟩:=this;exact⟨_,J,fun _ _ _ h=>by cases h⟩
   | gF q es=>obtain ⟨b,_,_,J,_⟩:=this;exact⟨_,J,fun _ _ _ h=>by cases h⟩
   | iter left cQ=>obtain ⟨r,_,_,_,_,_,_,J,_⟩:=this;exact⟨_,J,fun _ _ _ h=>by cases h⟩)
  (fun bd dD b b0 ae c2 hb=>by
   rw[cl,al rfl] at b0;injection b0 with b0;subst b0;rw[gO] at c2;injection c2 with c2;subst c2
   exact .inl (hu ae b hb))
  (fun bd b0 hS dc=>by
   rw[cl,al rfl] at b0;injection b0 with b0;subst b0
   exact an _ hS o4 dc)
 exact⟨jZ ρ k u,n5,(ax.mono aa az kG).put hd (ak _),kG,fun id hid=>jd _ _ hid⟩
theorem tv (w:World) (OT:Obj):Below w.heap.size w (w.alloc OT):=(Below.refl _ w).alloc (e4 _) OT
def DK:V->Bool
 | .lit _=>true
 | .ro _=>true
 | .own _=>true
 | .ptr ..=>true
 | .fk _=>true
 | .fs ..=>true
 | _=>false
theorem OU {v:V} (h:cT ρ S w v u) (ae:DK v=true) (ff:∀ id x,ρ id=some x->x.oneCell' = true):u.oneCell' = true:=by
 cases h with
 | pure h=>cases h with
  | lit _ h=>exact h
  | ro=>rfl
 | own h=>exact ff _ _ h
 | ptr=>rfl
 | fk=>rfl
 | agg=>cases ae
 | bN=>cases ae
 | fs=>rfl
 | any=>cases ae
 | gN=>cases ae
def flat:V->Option (List V)
 | .agg cs=>bif cs.all DK then some cs else none
 | .bN _=>none
 | .any=>none
 | .gN=>none
 | v=>some [v]
theorem zM {v:V} {cs:List V} (h:cT ρ S w v u) (hf:flat v=some cs) (ff:∀ id x,ρ id=some x->x.oneCell' = true) :
  u.cells.size=cs.length /\ ∀ j,j<cs.length->cT ρ S w (bw cs j) (u.cells.getD j undef)/\(u.cells.getD j undef).oneCell' = true:=by
 have single:∀ cH:V,DK cH = true->cT ρ S w cH u->u.cells.size=[cH].length /\ ∀ j,j<[cH].length->cT ρ S w (bw [cH] j) (u.cells.getD j undef)/\(u.cells.getD j undef).oneCell' = true:=by
  intro cH ae rc;have J:=OU rc ae ff;have hc:u.cells = #[u]:=by cases u <;> first|rfl|(simp[Value.oneCell'] at J)
  rw[hc];refine ⟨rfl,fun j ad=>?_⟩;have:j=0:=by simpa using ad
  subst this;exact⟨rc,J⟩
 cases v with
 | agg eU=>
  simp only[flat] at hf
  cases hb:eU.all DK with
  | false=>rw[hb] at hf;cases hf
  | true=>
   rw[hb] at hf;simp only[cond_true,ck] at hf;subst hf
   cases h with
   | pure h=>cases h
   | @agg _ us hn h=>
    refine ⟨hn,fun j ad=>⟨h j ad,OU (h j ad) ?_ ff⟩⟩;rw[lG] at hb;refine hb _ ?_;unfold bw;rw[bZ,eB ad];exact List.getElem_mem ad
 | bN=>cases hf
 | any=>cases hf
 | gN=>cases hf
 | lit=>simp only[flat,ck] at hf;subst hf;exact single _ rfl h
 | ro=>simp only[flat,ck] at hf;subst hf;exact single _ rfl h
 | own=>simp only[flat,ck] at hf;subst hf;exact single _ rfl h
 | ptr=>simp only[flat,ck] at hf;subst hf;exact single _ rfl h
 | fk=>simp only[flat,ck] at hf;subst hf;exact single _ rfl h
 | fs=>simp only[flat,ck] at hf;subst hf;exact single _ rfl h
theorem l5 {Q:Exit->Act->World->Prop} (h:(execOp a.eval o).run P w = .ok (.value u) aF) (ag:K (a.put o.dst u) aF):o.wp P a w K Q:=by
 unfold Oper.wp;rw[h];exact ag
theorem DL {Q:Exit->Act->World->Prop} (h:(execOp a.eval o).run P w = .ok .skip aF) (ag:K (a.put o.dst undef) aF):o.wp P a w K Q:=by
 unfold Oper.wp;rw[h];exact ag
theorem zN (w:World) (us:Array Value) (T:TypeId):(w.alloc (.cells us T)).heap[w.heap.size]? = some (.cells us T (0,0)):=heap_alloc_new w _
theorem OV {k:Nat} {cs:List V} (hH:eA F base ρ st.heap st.next w0 w) (ax:e0 ρ (bs F ρ st.heap) w st.af st.env a) (fY:ρ k=none) (ag:k<st.next) (hd:d<st.af) (hn:us.size=cs.length) (hc:∀ j,j<cs.length->cT ρ (bs F ρ st.heap) w (bw cs j) (us.getD j undef)/\(us.getD j undef).oneCell' = true) :
  IB k F base w0 ρ w (st.newAt k d (.ptr k 0 0 0) (.box T cs)) (a.put (some d) (.pointer (some ⟨w.heap.size,0,none⟩))) (w.alloc (.cells us T)):=by
 refine u6 hH ax fY ag (tv _ _) (fun _ b hb=>by simp only[dU,ck] at hb;omega) hd rfl (fun S hS _ aw=>?_) (fun S=>?_)
 ·refine ⟨w.heap.size,us,gO _ _ _,hH.fl _ (e4 _),zN _ _ _,hn,fun j ad=>⟨(hc j ad).1.mono aw hS (fun id x h=>?_),(hc j ad).2⟩⟩;rw[jd _ _ (fun e=>by rw[e,fY] at h;cases h)];exact h
 ·have:=@cT.ptr (jZ ρ k (.pointer (some ⟨w.heap.size,0,none⟩))) S (w.alloc (.cells us T)) k 0 0 0 w.heap.size _ (gO _ _ _) rfl;simpa using this
def gZ (P:Program) (T:TypeId):Option (List V):=
 match P.info? T with
 | some i=>match i.zero with
  | some z=>bif z.cells.toList.all (fun u=>u.oneCell') then some (z.cells.toList.map .lit) else none
  | none=>none
 | none=>none
theorem IC (h:us.toList.all (fun u=>u.oneCell')=true):us.size=(us.toList.map V.lit).length /\ ∀ j,j<(us.toList.map V.lit).length->cT ρ S w (bw (us.toList.map V.lit) j) (us.getD j undef)/\(us.getD j undef).oneCell' = true:=by
 refine ⟨by simp,fun j ad=>?_⟩;simp only[bY,pQ] at ad;have aI:bw (us.toList.map V.lit) j = .lit (us.getD j undef):=by
  unfold bw;rw[bZ,qn,eB kY];simp[ad]
 have ae:(us.getD j undef).oneCell' = true:=by
  rw[lG] at h;refine h _ ?_;simp[ad]
 rw[aI];exact⟨.pure (.lit _ ae),ae⟩
theorem DM {cs:List V} (h:gZ P T=some cs):∃ z:Value,cs=z.cells.toList.map .lit/\z.cells.toList.all (fun u=>u.oneCell')=true /\ ∀ w,(zeroValue T).run P w = .ok z w:=by
 unfold gZ at h;split at h
 ·rename_i i hi;split at h
  ·rename_i z aU
   cases hb:z.cells.toList.all (fun u=>u.oneCell') with
   | false=>rw[hb] at h;cases h
   | true=>
    rw[hb] at h;simp only[cond_true,ck] at h;exact⟨z,h.symm,hb,fun w=>by simp[zeroValue,typeInfo,hi,aU,Sem.run_bind,Sem.run_pure,program,Sem.run]⟩
  ·cases h
 ·cases h
theorem OW (T:TypeId) (v:Value) (w:World):(newVar T v).run P w = .ok ⟨w.heap.size,0,none⟩ (w.alloc (.cells v.cells T)):=by
 rfl
theorem OX {k:Nat} {cs:List V} (ae:o.op = .alloc T) (hd:o.dst=some d) (aN:Nat.blt d st.af=true) (aU:gZ P T=some cs) :
  kU P k o st (st.newAt k d (.ptr k 0 0 0) (.box T cs)):=fun F base w0 ρ a w hH ax fY ag=>by
 obtain ⟨z,rfl,ln,xz⟩:=DM aU;obtain ⟨fv,gz⟩:=IC (ρ:=ρ) (S:=bs F ρ st.heap) (w:=w) ln;refine l5 (u:=.pointer (some ⟨w.heap.size,0,none⟩)) (aF:=w.alloc (.cells z.cells T)) ?_ ?_
 ·unfold execOp;rw[ae];simp[Instr.alloc,Sem.run_bind,xz,OW]
 ·rw[hd];exact OV hH ax fY ag (bM aN) fv gz
theorem OY {k:Nat} {v:V} {cs:List V} (ae:o.op = .box T x) (hd:o.dst=some d) (aN:Nat.blt d st.af=true) (U:aJ st.env x=some v) (hf:flat v=some cs) :
  kU P k o st (st.newAt k d (.ptr k 0 0 0) (.box T cs)):=fun F base w0 ρ a w hH ax fY ag=>by
 obtain ⟨fv,gz⟩:=zM (df ax U) hf (fun id x h=>(hH.sup id x h).2);refine l5 (u:=.pointer (some ⟨w.heap.size,0,none⟩)) (aF:=w.alloc (.cells (a.eval x).cells T)) ?_ ?_
 ·unfold execOp;rw[ae];simp[Instr.box,OW]
 ·rw[hd];exact OV hH ax fY ag (bM aN) fv gz
theorem WM {cs:List V} (ae:o.op = .alloc T) (hd:o.dst=some d) (aN:Nat.blt d st.af=true) (hn0:Nat.ble n0 st.next=true) (aU:gZ P T=some cs) :
  GStep P n0 o st (st.new d (.ptr st.next 0 0 0) (.box T cs)):=qj (bM hn0) (OX (st:={ st with next:=st.next+1 }) ae hd aN aU)
theorem WN {v:V} {cs:List V} (ae:o.op = .box T x) (hd:o.dst=some d) (aN:Nat.blt d st.af=true) (hn0:Nat.ble n0 st.next=true) (U:aJ st.env x=some v) (hf:flat v=some cs) :
  GStep P n0 o st (st.new d (.ptr st.next 0 0 0) (.box T cs)):=qj (bM hn0) (OY (st:={ st with next:=st.next+1 }) ae hd aN U hf)
def setAt:Nat->List V->List V->List V
 | 0,[],cs=>cs
 | 0,v :: vs,_ :: cs=>v :: setAt 0 vs cs
 | n+1,vs,c :: cs=>c :: setAt n vs cs
 | _,_,[]=>[]
theorem sB:∀ (n:Nat) (vs cs:List V),(setAt n vs cs).length=cs.length
 | 0,[],cs=>by simp[setAt]
 | 0,v :: vs,c :: cs=>by simp[setAt,sB 0 vs cs]
 | n+1,vs,c :: cs=>by simp[setAt,sB n vs cs]
 | 0,v :: vs,[]=>rfl
 | n+1,vs,[]=>rfl
theorem xA:∀ (n:Nat) (vs cs:List V),n+vs.length<=cs.length -> ∀ j,bw (setAt n vs cs) j=if n<=j/\j<n+vs.length then bw vs (j - n) else bw cs j
 | 0,[],cs,_,j=>by simp[setAt]
 | 0,v :: vs,c :: cs,h,j=>by
  simp only[eb] at h
  cases j with
  | zero=>simp[setAt,bw]
  | succ j=>
   have:=xA 0 vs cs (by omega) j;simp only[setAt];have e:bw (v :: setAt 0 vs cs) (j+1)=bw (setAt 0 vs cs) j:=by simp[bw]
   rw[e,this];simp only[cm,true_and,fy,eb,Nat.sub_zero];have a7:bw (v :: vs) (j+1)=bw vs j:=by simp[bw]
   have cC:bw (c :: cs) (j+1)=bw cs j:=by simp[bw]
   rw[a7,cC];by_cases hh:j<vs.length
   ·rw[al hh,al (by omega)]
   ·rw[ah hh,ah (by omega)]
 | n+1,vs,c :: cs,h,j=>by
  simp only[eb] at h
  cases j with
  | zero=>simp[setAt,bw]
  | succ j=>
   have:=xA n vs cs (by omega) j;simp only[setAt];have e:bw (c :: setAt n vs cs) (j+1)=bw (setAt n vs cs) j:=by simp[bw]
   rw[e,this];have cC:bw (c :: cs) (j+1)=bw cs j:=by simp[bw]
   rw[cC];by_cases hh:n<=j/\j<n+vs.length
   ·rw[al hh,al (by omega)];congr 1;omega
   ·rw[ah hh,ah (by omega)]
 | 0,v :: vs,[],h,j=>by simp at h
 | n+1,vs,[],h,j=>by simp at h
theorem run_store {cQ:Array Value} (aY:dr P T=some n) (hn:u.cells.size=n) (av:w.heap[g]? = some (.cells cQ t (0,0))) (ao:off+n<=cQ.size) (J:∀ v ∈ u.cells.toList,v.oneCell' = true) :
  (Instr.storeAt T (.pointer (some ⟨g,off,none⟩)) u).run P w = .ok () (w.setRow g (cQ.toList.take off++u.cells.toList++cQ.toList.drop (off+n)).toArray):=by
 have lk:=run_storeCells_at P g off t u.cells.toList 0 cQ w av (by simp;omega) J;simp only[kq,pQ,hn] at lk;simp[Instr.storeAt,Instr.sureAddr,storeVar,tM aY,hn,Sem.run_bind,lk]
theorem ID {vs:Array Value} (h:off+vs.size<=us.size) (ad:j<us.size):((us.toList.take off++vs.toList++us.toList.drop (off+vs.size)).toArray).getD j undef=if off<=j/\j<off+vs.size then vs.getD (j - off) undef else us.getD j undef:=by
 simp only[gg,List.getElem?_toArray,lS];by_cases J:j<off
 ·rw[sh (by simp;omega),ah (by omega),n7,al J];simp
 ·rw[sg (by simp;omega)];have e:(us.toList.take off).length=off:=by simp;omega
  rw[e];by_cases aa:j<off+vs.size
  ·rw[sh (by simp;omega),al (by omega)];simp
  ·rw[sg (by simp;omega),ah (by omega),List.getElem?_drop];have a7:off+vs.size+(j - off - vs.toList.length)=j:=by simp;omega
   rw[a7];simp
theorem IE {vs:Array Value} (h:off+vs.size<=us.size):((us.toList.take off++vs.toList++us.toList.drop (off+vs.size)).toArray).size=us.size:=by
 simp;omega
theorem IF (w:World) (g:Nat) (cs:Array Value):w.grownBy (w.setRow g cs) (some g):=⟨rfl,rfl,rfl,by simp,fun k _ ag=>setRow_other w g k cs (fun e=>ag (by rw[e]))⟩
theorem eA.nd {heap:List (Nat×Option aT)} {next:Nat} (h:eA F base ρ heap next w0 w) {B:aT} (an:aM heap id=some B):∃ u,ρ id=some u:=by
 have:=h.cJ _ _ an
 cases B with
 | box t cs=>obtain ⟨b,us,J,_⟩:=this;exact⟨_,J⟩
 | row e s l=>obtain ⟨_,v,xs,J,_⟩:=this;exact⟨_,J⟩
 | dY l=>obtain ⟨v,J,_⟩:=this;exact⟨_,J⟩
 | map q es=>obtain ⟨b,_,_,J,_⟩:=this;exact⟨_,J⟩
 | obj o=>obtain ⟨b,J,_⟩:=this;exact⟨_,J⟩
 | mV be lL=>obtain ⟨b,_,_,_,J,_⟩:=this;exact⟨_,J⟩
 | ch e s l=>obtain ⟨_,v,xs,J,_⟩:=this;exact⟨_,J⟩
 | gF q es=>obtain ⟨b,_,_,J,_⟩:=this;exact⟨_,J⟩
 | iter left cQ=>obtain ⟨r,_,_,_,_,_,_,J,_⟩:=this;exact⟨_,J⟩
theorem OZ {t:Nat} {cs vs:List V} {v:V} (ae:o.op = .store T x y) (hd:o.dst=none) (U:aJ st.env x=some (.ptr id 0 s j)) (hh:aM st.heap id=some (.box t cs)) (aj:aJ st.env y=some v) (hf:flat v=some vs) (aY:dr P T=some vs.length) (ao:Nat.ble (j+vs.length) cs.length=true) :
  GStep P n0 o st { st with heap:=(id,some (.box t (setAt j vs cs))) :: st.heap }:=fun F base w0 ρ a w hH ax=>by
 have ao:=bM ao;obtain ⟨r,b,J,aa,az⟩:=pR (df ax U);obtain ⟨fD,us,aI,a7,cC,eI,fZ⟩:=hH.cJ _ _ hh;rw[J] at aI;injection aI with aI;subst aI;simp only[dU,ck] at aa;subst aa;obtain ⟨fv,gz⟩:=zM (df ax aj) hf (fun id x h=>(hH.sup id x h).2);have lH:∀ v ∈ (a.eval y).cells.toList,v.oneCell' = true:=fun v ak=>by
  obtain ⟨i,hi,rfl⟩:=List.getElem_of_mem ak;simp only[pQ] at hi;have:=(gz i (by omega)).2;simpa[hi] using this
 have jB:=run_store (P:=P) (T:=T) (n:=vs.length) (g:=fD) (off:=j) aY fv cC (by omega) lH;have bW:=(gB.1 cC).1;have l3:¬ bs F ρ st.heap fD:=fun aw=>aw.2 id _ _ hh rfl J rfl
 refine DL (aF:=w.setRow fD (us.toList.take j++(a.eval y).cells.toList++us.toList.drop (j+vs.length)).toArray) ?_ ?_
 ·unfold execOp;rw[ae];simp only[az,Nat.zero_mul,fy,Sem.run_bind,jB];rfl
 ·rw[hd];have cZ:=IE (us:=us) (vs:=(a.eval y).cells) (off:=j) (by omega);have qL:=fun i=>ID (us:=us) (vs:=(a.eval y).cells) (off:=j) (j:=i) (by omega)
  rw[fv] at cZ qL;generalize (us.toList.take j++(a.eval y).cells.toList++us.toList.drop (j+vs.length)).toArray=N at cZ qL ⊢;obtain ⟨aL,aS,bi⟩:=hH.step (bl:=ρ) (cB:=(id,some (.box t (setAt j vs cs))) :: st.heap) (next':=st.next) id (some fD) (IF w fD N)
   (fun k ag=>by injection ag with ag;subst ag;exact⟨a7,l3⟩) (fun _ _ h=>h) (fun id u h=>hH.sup id u h)
   (fun i B ct an=>by
    rw[cl,ah (Ne.symm ct)] at an;refine ⟨an,?_⟩;obtain ⟨u,hu⟩:=hH.nd an
    exact⟨u,hu,fun ae b hb e=>by injection e with e;subst e;exact ct (hH.inj i id B _ u _ fD an hh ae rfl hu J hb rfl)⟩)
   (fun B u b an ae hu hb=>by
    rw[J] at hu;injection hu with hu;subst hu;simp only[dU,ck] at hb;subst hb;refine .inr ⟨l3,fun i bd dD ct b0 dK c2 cG=>?_⟩;rw[cl,ah (Ne.symm ct)] at b0
    exact ct (hH.inj i id bd _ dD _ fD b0 hh dK rfl c2 J cG rfl))
   (fun B an hS dc=>by
    rw[cl,al rfl] at an;injection an with an;subst an;refine ⟨fD,_,J,a7,setRow_heap w fD us _ t _ cC,by rw[sB];omega,fun i hi=>?_⟩;rw[sB] at hi;rw[xA _ _ _ ao,qL i (by omega)];by_cases xB:j<=i/\i<j+vs.length
    ·rw[al xB,al xB];have:=gz (i - j) (by omega);exact⟨this.1.mono dc hS (fun _ _ h=>h),this.2⟩
    ·rw[ah xB,ah xB]
     exact⟨(fZ i hi).1.mono dc hS (fun _ _ h=>h),(fZ i hi).2⟩)
  exact⟨ρ,aL,ax.mono aS bi (fun _ _ h=>h),fun _ _ h=>h,fun _ _=>rfl⟩
def hQ:V->Bool
 | .lit _=>true
 | .ro _=>true
 | _=>false
theorem yP {v:V} (h:cT ρ S w v u) (ar:hQ v=true):gn S w v u:=by
 cases h with
 | pure h=>exact h
 | _=>cases ar
theorem O0 {l:List (List V)} {vs:List V} {v:V} (ae:o.op = .store T x y) (hd:o.dst=none) (U:aJ st.env x=some (.ptr id i s j)) (hh:aM st.heap id=some (.row e s l)) (hi:i<l.length) (aj:aJ st.env y=some v) (hf:flat v=some vs) (ar:vs.all hQ=true) (aY:dr P T=some vs.length) (ao:Nat.ble (j+vs.length) s=true) :
  GStep P n0 o st { st with heap:=(id,some (.row e s (l.set i (setAt j vs (bb l i))))) :: st.heap }:=fun F base w0 ρ a w hH ax=>by
 have ao:=bM ao;obtain ⟨r,b,J,aa,az⟩:=pR (df ax U);obtain ⟨pC,cH,xs,aI,⟨a7,qo⟩,cC,eI⟩:=hH.cJ _ _ hh;rw[J] at aI;injection aI with aI;subst aI;obtain ⟨xr,h1⟩:=a7;rcases h1 with⟨rfl,_⟩ | ⟨g,cap,cQ,rfl,tO,av,nv,qp,hN,pD⟩
 ·simp[dU] at aa
 simp only[dU,ck] at aa;subst aa;obtain ⟨fv,gz⟩:=zM (df ax aj) hf (fun id x h=>(hH.sup id x h).2);have lH:∀ v ∈ (a.eval y).cells.toList,v.oneCell' = true:=fun v ak=>by
  obtain ⟨i,hi,rfl⟩:=List.getElem_of_mem ak;simp only[pQ] at hi;have:=(gz i (by omega)).2;simpa[hi] using this
 have hlen:(bb l i).length=s:=cC i hi;have hmul:(i+1) * s<=l.length * s:=kk s hi;have WO:l.length * s<=cap * s:=kk s nv;have WQ:(i+1) * s=i * s+s:=nG i s;have jB:=run_store (P:=P) (T:=T) (n:=vs.length) (g:=g) (off:=i * s+j) aY fv av (by omega) lH;have bW:=(gB.1 av).1;have l3:¬ bs F ρ st.heap g:=fun aw=>aw.2 id _ _ hh rfl J rfl
 refine DL (aF:=w.setRow g (cQ.toList.take (i * s+j)++(a.eval y).cells.toList++cQ.toList.drop (i * s+j+vs.length)).toArray) ?_ ?_
 ·unfold execOp;rw[ae];simp only[az,Sem.run_bind,jB];rfl
 ·rw[hd];have cZ:=IE (us:=cQ) (vs:=(a.eval y).cells) (off:=i * s+j) (by omega);have qL:=fun k=>ID (us:=cQ) (vs:=(a.eval y).cells) (off:=i * s+j) (j:=k) (by omega)
  rw[fv] at cZ qL;generalize (cQ.toList.take (i * s+j)++(a.eval y).cells.toList++cQ.toList.drop (i * s+j+vs.length)).toArray=N at cZ qL ⊢;obtain ⟨aL,aS,bi⟩:=hH.step (bl:=ρ) (cB:=(id,some (.row e s (l.set i (setAt j vs (bb l i))))) :: st.heap) (next':=st.next) id (some g) (IF w g N)
   (fun k ag=>by injection ag with ag;subst ag;exact⟨qo _ rfl,l3⟩) (fun _ _ h=>h) (fun id u h=>hH.sup id u h)
   (fun i B ct an=>by
    rw[cl,ah (Ne.symm ct)] at an;refine ⟨an,?_⟩;obtain ⟨u,hu⟩:=hH.nd an
    exact⟨u,hu,fun ae b hb e=>by injection e with e;subst e;exact ct (hH.inj i id B _ u _ g an hh ae rfl hu J hb rfl)⟩)
   (fun B u b an ae hu hb=>by
    rw[J] at hu;injection hu with hu;subst hu;simp only[dU,ck] at hb;subst hb;refine .inr ⟨l3,fun i bd dD ct b0 dK c2 cG=>?_⟩;rw[cl,ah (Ne.symm ct)] at b0
    exact ct (hH.inj i id bd _ dD _ g b0 hh dK rfl c2 J cG rfl))
   (fun B an hS dc=>by
    rw[cl,al rfl] at an;injection an with an;subst an;have o5:(l.set i (setAt j vs (bb l i))).length=l.length:=by simp
    have zO:∀ k,bb (l.set i (setAt j vs (bb l i))) k=if i=k then setAt j vs (bb l i) else bb l k:=fun k=>by
     unfold bb;rw[bZ,bZ,bZ,nU];by_cases kW:i=k
     ·subst kW;simp[hi]
     ·simp[kW]
    refine ⟨pC,_,N.toList.take (l.length * s),J,⟨⟨by rw[o5];simp;omega,.inr ⟨g,cap,N,by rw[o5],tO,setRow_heap w g cQ N e _ av,by rw[o5];exact nv,qp,by omega,by rw[o5]⟩⟩,qo⟩,fun k ag=>?_,fun k c ag hc=>?_⟩
    ·rw[zO];rw[o5] at ag;by_cases kW:i=k
     ·rw[al kW,sB];exact hlen
     ·rw[ah kW];exact cC k ag
    ·rw[o5] at ag;have jY:(k+1) * s<=l.length * s:=kk s ag;have yY:(k+1) * s=k * s+s:=nG k s;have cf:(N.toList.take (l.length * s))[k * s+c]? = some (N.getD (k * s+c) undef):=by
      rw[n7,al (by omega)];simp[show k * s+c<N.size by omega]
     refine ⟨_,cf,?_⟩;rw[zO,qL (k * s+c) (by omega)];obtain ⟨IG,nB,fz,zP⟩:=eI k c ag hc;have zQ:cQ.getD (k * s+c) undef=IG:=by
      rw[<- pD,n7,al (by omega)] at nB;simp only[tr] at nB;rw[gg,nB];rfl
     by_cases kW:i=k
     ·subst kW;rw[al rfl,xA _ _ _ (by omega)];by_cases ob:j<=c/\c<j+vs.length
      ·rw[al ob,al (by omega),show i * s+c - (i * s+j)=c - j by omega];have hq:=gz (c - j) (by omega);refine ⟨(yP hq.1 ?_).mono dc hS,hq.2⟩;rw[lG] at ar;refine ar _ ?_;unfold bw;rw[bZ,eB (by omega)];exact List.getElem_mem _
      ·rw[ah ob,ah (by omega),zQ];exact⟨fz.mono dc hS,zP⟩
     ·rw[ah kW];have IH:¬ (i * s+j<=k * s+c/\k * s+c<i * s+j+vs.length):=by
       rintro ⟨g1,g2⟩;rcases Nat.lt_or_gt_of_ne kW with hh|hh
       ·have:(i+1) * s<=k * s:=kk s hh;omega
       ·have:(k+1) * s<=i * s:=kk s hh;omega
      rw[ah IH,zQ]
      exact⟨fz.mono dc hS,zP⟩)
  exact⟨ρ,aL,ax.mono aS bi (fun _ _ h=>h),fun _ _ h=>h,fun _ _=>rfl⟩
end
section
variable {P:Program} {n0:Nat}
def kV (n0:Nat) (F:Nat->Prop) (base:Nat->Prop) (w0:World) (ρ:Nat->Option Value) (Q:Exit->aW->Prop) (e:Exit) (a:Act) (w:World):Prop:=
 ∃ bl st,Q e st/\eA F base bl st.heap st.next w0 w/\e0 bl (bs F bl st.heap) w st.af st.env a /\ ∀ id,id<n0->bl id=ρ id
def cE (P:Program) (n0:Nat) (c:Code) (st:aW) (Q:Exit->aW->Prop):Prop:=
 ∀ F base w0 ρ a w,eA F base ρ st.heap st.next w0 w->e0 ρ (bs F ρ st.heap) w st.af st.env a->c.wp P (kV n0 F base w0 ρ Q) a w
def DN (Q:aW->Prop) (e:Exit) (st:aW):Prop:=e = .normal/\Q st
def a6 (P:Program) (n0:Nat) (ops:Array Oper) (l:List Oper) (st:aW) (Q:aW->Prop):Prop:=
 ∀ F base w0 ρ a w,eA F base ρ st.heap st.next w0 w->e0 ρ (bs F ρ st.heap) w st.af st.env a->wpList P ops (kV n0 F base w0 ρ (DN Q)) l a w
theorem kV.trans {Q:Exit->aW->Prop} {e:Exit} (ff:∀ id,id<n0->bl id=ρ id) (h:kV n0 F base w0 bl Q e a w):kV n0 F base w0 ρ Q e a w:=
 let ⟨mW,st,J,aa,az,bk⟩:=h
 ⟨mW,st,J,aa,az,fun id hid=>(bk id hid).trans (ff id hid)⟩
theorem kV.mono {Q oc:Exit->aW->Prop} (hp:∀ e st,Q e st->oc e st) {e:Exit} (h:kV n0 F base w0 ρ Q e a w):kV n0 F base w0 ρ oc e a w:=
 let ⟨mW,st,J,aa,az,bk⟩:=h
 ⟨mW,st,hp _ _ J,aa,az,bk⟩
theorem CY {o:Oper} {Q oc:Exit->Act->World->Prop} (h:∀ a w,K a w->qC a w) (hp:∀ e a w,Q e a w->oc e a w) (hh:o.wp P a w K Q):o.wp P a w qC oc:=by
 unfold Oper.wp at *;generalize (execOp a.eval o).run P w=r at *
 cases r with
 | ok n aF=>
  cases n <;> simp only[Oper.upon] at hh ⊢ <;>
   first
    | exact h _ _ hh
    | exact Calls.mono hh (fun e Nt he=>by cases e <;> first|exact h _ _ he|exact hp _ _ _ he|(obtain ⟨a,w,he⟩:=he;exact⟨a,w,hp _ _ _ he⟩))
    | exact Rows.mono hh (fun _ _ he=>h _ _ he)
 | halt x aF=>cases x <;> simp only[Oper.upon] at hh ⊢ <;> first|exact hp _ _ _ hh|exact hh
theorem u7 {ops:Array Oper} {Q oc:Exit->Act->World->Prop} (hp:∀ e a w,Q e a w->oc e a w):∀ (l:List Oper) (a:Act) (w:World),wpList P ops Q l a w->wpList P ops oc l a w
 | [],_,_,h=>hp _ _ _ h
 | o :: rest,a,w,h=>by
  unfold wpList at h ⊢;split
  ·rename_i hw;rw[al hw] at h;rcases h with h | ⟨J,a,w,aa⟩
   ·exact .inl (CY (u7 hp rest) hp h)
   ·exact .inr ⟨J,a,w,hp _ _ _ aa⟩
  ·rename_i hw;rw[ah hw] at h;exact u7 hp rest _ _ h
def b1 (env:List (Nat×V)) (ops:List Oper):Option (Nat×Bool)->Option Bool
 | none=>some true
 | some (j,b)=>match ops[j]? with
  | some zR=>match zR.dst with
   | some d=>match cW env d with
    | some (.lit (.bool fD))=>some (bif b then fD else !fD)
    | some .gN=>some false
    | _=>none
   | none=>none
  | none=>none
theorem WR (h:cT ρ S w .gN u):u=undef:=by
 cases h with
 | pure h=>cases h
 | gN=>rfl
theorem qz {af:Nat} {env:List (Nat×V)} (ax:e0 ρ S w af env a) {ops:List Oper} {o:Oper} {b:Bool} (h:b1 env ops o.guard=some b) :
  Region.wanted o (yielded ops.toArray a.tmps)=b:=by
 unfold Region.wanted
 cases av:o.guard with
 | none=>rw[av] at h;simp only[b1,ck] at h;exact h
 | some II=>
  obtain ⟨j,want⟩:=II;rw[av] at h;simp only[b1] at h;unfold yielded
  cases ad:ops[j]? with
  | none=>rw[ad] at h;cases h
  | some zR=>
   simp only[ad] at h;simp only[List.getElem?_toArray,ad,Option.bind_some]
   cases hd:zR.dst with
   | none=>simp only[hd] at h;cases h
   | some d=>
    simp only[hd] at h;simp only[Option.bind_some]
    cases he:cW env d with
    | none=>simp only[he] at h;cases h
    | some v=>
     simp only[he] at h;have ak:=ax.slot d v he
     cases v with
     | lit u=>
      cases u with
      | bool fD=>
       have e:=fO ak;have:a.tmps[d]? = some (.bool fD):=by
        rw[gg] at e
        cases az:a.tmps[d]? with
        | none=>rw[az] at e;simp[undef] at e
        | some x=>rw[az] at e;simp at e;rw[e]
       rw[this];simp only[ck] at h;subst h
       cases want <;> cases fD <;> rfl
      | _=>cases h
     | gN=>
      simp only[ck] at h;subst h;have e:a.tmps.getD d undef=undef:=WR ak;rw[gg] at e
      cases az:a.tmps[d]? with
      | none=>rfl
      | some x=>rw[az] at e;simp at e;rw[e];rfl
     | _=>cases h
def mX (af:Nat):Option Tmp->Bool
 | some d=>Nat.blt d af
 | none=>true
theorem e0.zS {st:aW} (h:e0 ρ S w st.af st.env a) {d:Option Tmp} (hd:mX st.af d=true) {v:V} (ak:cT ρ S w v u) :
  e0 ρ S w (st.put d v).af (st.put d v).env (a.put d u):=by
 cases d with
 | none=>exact h
 | some d=>exact h.put (bM hd) ak
theorem DO (st:aW) (d:Option Tmp) (v:V):(st.put d v).heap=st.heap/\(st.put d v).next=st.next:=by cases d <;> exact⟨rfl,rfl⟩
theorem zT {ops:Array Oper} {st:aW} {Q:aW->Prop} (h:Q st):a6 P n0 ops [] st Q:=
 fun F base w0 ρ a w hH ax=>⟨ρ,st,⟨rfl,h⟩,hH,ax,fun _ _=>rfl⟩
theorem O1 {ops:List Oper} {o:Oper} {rest:List Oper} {st:aW} {Q:aW->Prop} (av:b1 st.env ops o.guard=some false) (hd:mX st.af o.dst=true) (h:a6 P n0 ops.toArray rest (st.put o.dst .gN) Q):a6 P n0 ops.toArray (o :: rest) st Q:=
 fun F base w0 ρ a w hH ax=>wpList_step fun K l6=>by
  rw[ah (by rw[qz ax av];exact iS)];obtain ⟨aI,a7⟩:=DO st o.dst .gN;exact l6 _ _ (h F base w0 ρ _ w (by rw[aI,a7];exact hH) (by rw[aI];exact ax.zS hd .gN))
theorem WS {ops:List Oper} {o:Oper} {rest:List Oper} {st:aW} {Q:aW->Prop} {v:V} (av:b1 st.env ops o.guard=some true) (hd:mX st.af o.dst=true) (hq:bu P [] o st v) (h:a6 P n0 ops.toArray rest (st.put o.dst v) Q):a6 P n0 ops.toArray (o :: rest) st Q:=
 fun F base w0 ρ a w hH ax=>wpList_step fun K l6=>by
  rw[al (qz ax av)];obtain ⟨u,J,aa⟩:=hq F base w0 ρ a w hH.toHRel0 ax rfl;obtain ⟨aI,a7⟩:=DO st o.dst v;exact l5 (aa w (Ext.refl _ _)) (l6 _ _ (h F base w0 ρ _ w (by rw[aI,a7];exact hH) (by rw[aI];exact ax.zS hd J)))
theorem kn {ops:List Oper} {o:Oper} {rest:List Oper} {st bq:aW} {Q:aW->Prop} (av:b1 st.env ops o.guard=some true) (aw:GStep P n0 o st bq) (h:a6 P n0 ops.toArray rest bq Q):a6 P n0 ops.toArray (o :: rest) st Q:=
 fun F base w0 ρ a w hH ax=>wpList_step fun K l6=>by
  rw[al (qz ax av)];refine CY (fun hx aF c6=>?_) (fun e a w h=>h.elim) (aw F base w0 ρ a w hH ax);obtain ⟨bl,J,aa,az,bk⟩:=c6;refine l6 _ _ ?_;have:=h F base w0 bl hx aF J aa;exact u7 (fun e a w ar=>kV.trans bk ar) _ _ _ this
def cg (P:Program) (n0:Nat) (st bq:aW):Prop:=∀ F base w0 ρ a w,eA F base ρ st.heap st.next w0 w->e0 ρ (bs F ρ st.heap) w st.af st.env a ->
 ∃ bl,eA F base bl bq.heap bq.next w0 w/\e0 bl (bs F bl bq.heap) w bq.af bq.env a /\ ∀ id,id<n0->bl id=ρ id
theorem C1 {ops:Array Oper} {l:List Oper} {st bq:aW} {Q:aW->Prop} (ao:cg P n0 st bq) (h:a6 P n0 ops l bq Q):a6 P n0 ops l st Q:=
 fun F base w0 ρ a w hH ax=>by
  obtain ⟨bl,J,aa,az⟩:=ao F base w0 ρ a w hH ax;exact u7 (fun e a w ar=>kV.trans az ar) _ _ _ (h F base w0 bl a w J aa)
theorem gH {st bq:aW} {Q:Exit->aW->Prop} (ao:cg P n0 st bq) (h:cE P n0 c bq Q):cE P n0 c st Q:=
 fun F base w0 ρ a w hH ax=>by
  obtain ⟨bl,J,aa,az⟩:=ao F base w0 ρ a w hH ax;exact wp_mono (h F base w0 bl a w J aa) (fun e a w ar=>kV.trans az ar)
theorem O2 {st:aW} {Q oc:Exit->aW->Prop} (h:cE P n0 c st Q) (hq:∀ e st,Q e st->oc e st):cE P n0 c st oc:=
 fun F base w0 ρ a w hH ax=>wp_mono (h F base w0 ρ a w hH ax) (fun e a w ar=>kV.mono hq ar)
theorem nW {l:List Oper} {st:aW} {Q:Exit->aW->Prop} (h:a6 P n0 l.toArray l st (Q .normal)):cE P n0 (.region id l.toArray false) st Q:=
 fun F base w0 ρ a w hH ax=>wp_region_lit (u7 (fun e a w ar=>kV.mono (fun e st h=>by obtain ⟨rfl,h⟩:=h;exact h) ar) _ _ _ (h F base w0 ρ a w hH ax))
theorem DP {st:aW} {Q:Exit->aW->Prop} (h:Q .normal st):cE P n0 .skip st Q:=fun F base w0 ρ a w hH ax=>wp_skip ⟨ρ,st,h,hH,ax,fun _ _=>rfl⟩
theorem DQ {st:aW} {Q:Exit->aW->Prop} (h:Q .ret st):cE P n0 .ret st Q:=fun F base w0 ρ a w hH ax=>wp_ret ⟨ρ,st,h,hH,ax,fun _ _=>rfl⟩
theorem DR {st:aW} {Q:Exit->aW->Prop} (h:Q (.exit id) st):cE P n0 (.exit id) st Q:=fun F base w0 ρ a w hH ax=>wp_exit ⟨ρ,st,h,hH,ax,fun _ _=>rfl⟩
def sC (next:aW->Prop) (Q:Exit->aW->Prop):Exit->aW->Prop
 | .normal,st=>next st
 | e,st=>Q e st
theorem gW {x y:Code} {st:aW} {Q:Exit->aW->Prop} (h:cE P n0 x st (sC (fun bq=>cE P n0 y bq Q) Q)):cE P n0 (.seq x y) st Q:=
 fun F base w0 ρ a w hH ax=>wp_seq (wp_mono (h F base w0 ρ a w hH ax) (fun e hx aF ar=>by
  obtain ⟨bl,bq,J,aa,az,bk⟩:=ar
  cases e with
  | normal=>exact wp_mono (J F base w0 bl hx aF aa az) (fun e a w ar=>kV.trans bk ar)
  | _=>exact⟨bl,bq,J,aa,az,bk⟩))
def tP (id:Nat) (Q:Exit->aW->Prop):Exit->aW->Prop
 | .exit i,st=>bif Nat.beq i id then Q .normal st else Q (.exit i) st
 | e,st=>Q e st
theorem DS {st:aW} {Q:Exit->aW->Prop} (h:cE P n0 c st (tP id Q)):cE P n0 (.block id c) st Q:=
 fun F base w0 ρ a w hH ax=>wp_block (wp_mono (h F base w0 ρ a w hH ax) (fun e hx aF ar=>by
  obtain ⟨bl,bq,J,aa,az,bk⟩:=ar
  cases e with
  | exit i=>
   simp only[Exit.inBlock];simp only[tP] at J;split
   ·rename_i hi;subst hi;simp only[Nat.beq_refl,cond_true] at J;exact⟨bl,bq,J,aa,az,bk⟩
   ·rename_i hi;have hb:Nat.beq i id=false:=by
     cases hb:Nat.beq i id
     ·rfl
     ·exact absurd (iF hb) hi
    rw[hb] at J;exact⟨bl,bq,J,aa,az,bk⟩
  | _=>exact⟨bl,bq,J,aa,az,bk⟩))
theorem O3 {c:Operand} {x y:Code} {st:aW} {Q:Exit->aW->Prop} {b:Bool} (hc:aJ st.env c=some (ab b)) (ht:b=true->cE P n0 x st Q) (hf:b=false->cE P n0 y st Q):cE P n0 (.cond c x y) st Q:=
 fun F base w0 ρ a w hH ax=>by
  refine wp_cond_split (fO (df ax hc)) (fun h=>ht h F base w0 ρ a w hH ax) (fun h=>hf h F base w0 ρ a w hH ax)
theorem rM {c:Operand} {x y:Code} {st:aW} {Q:Exit->aW->Prop} (hc:aJ st.env c=some (ab true)) (h:cE P n0 x st Q):cE P n0 (.cond c x y) st Q:=O3 hc (fun _=>h) (fun h=>by cases h)
theorem ng {c:Operand} {x y:Code} {st:aW} {Q:Exit->aW->Prop} (hc:aJ st.env c=some (ab false)) (h:cE P n0 y st Q):cE P n0 (.cond c x y) st Q:=O3 hc (fun h=>by cases h) (fun _=>h)
theorem WT {st:aW} {Q:Exit->aW->Prop} (mY:X->aW) (sD:X->Nat) (eZ:X) (ai:cg P n0 st (mY eZ)) (round:∀ x,cE P n0 c (mY x) (sC (fun bq=>∃ mU,sD mU < sD x/\cg P n0 bq (mY mU)) Q)):cE P n0 (.loop c) st Q:=by
 refine gH ai ?_;intro F base w0 ρ a w hH ax;refine wp_loop_ghost (fun n a w=>∃ x bl,sD x=n/\eA F base bl (mY x).heap (mY x).next w0 w/\e0 bl (bs F bl (mY x).heap) w (mY x).af (mY x).env a /\ ∀ id,id<n0->bl id=ρ id) (sD eZ) ⟨eZ,ρ,rfl,hH,ax,fun _ _=>rfl⟩ ?_;rintro n a w ⟨x,bl,rfl,J,aa,az⟩;refine wp_mono (round x F base w0 bl a w J aa) (fun e hx aF ar=>?_);obtain ⟨mW,bq,aL,aS,bi,cq⟩:=ar
 cases e with
 | normal=>
  obtain ⟨mU,qM,ao⟩:=aL;obtain ⟨WU,g1,g2,g3⟩:=ao F base w0 mW hx aF aS bi;exact⟨sD mU,qM,mU,WU,rfl,g1,g2,fun id hid=>(g3 id hid).trans ((cq id hid).trans (az id hid))⟩
 | _=>exact⟨mW,bq,aL,aS,bi,fun id hid=>(cq id hid).trans (az id hid)⟩
def DT (env:List (Nat×V)):List (Nat×V)->Prop
 | []=>True
 | (t,v) :: r=>cW env t=some v/\DT env r
theorem O4 {env:List (Nat×V)}:∀ {e:List (Nat×V)},DT env e -> ∀ t v,cW e t=some v->cW env t=some v
 | [],_,t,v,h=>by simp[cW] at h
 | (s,u) :: r,hc,t,v,h=>by
  simp only[cW] at h
  cases hb:Nat.beq s t with
  | true=>rw[hb] at h;simp only[cond_true,ck] at h;rw[<- h,<- iF hb];exact hc.1
  | false=>rw[hb] at h;exact O4 hc.2 t v h
theorem cg.refl (st:aW):cg P n0 st st:=fun F base w0 ρ a w hH ax=>⟨ρ,hH,ax,fun _ _=>rfl⟩
theorem cg.trans {s1 s2 Du:aW} (h:cg P n0 s1 s2) (k:cg P n0 s2 Du):cg P n0 s1 Du:=fun F base w0 ρ a w hH ax=>by
 obtain ⟨bl,J,aa,az⟩:=h F base w0 ρ a w hH ax;obtain ⟨mW,bB,de,fJ⟩:=k F base w0 bl a w J aa;exact⟨mW,bB,de,fun id hid=>(fJ id hid).trans (az id hid)⟩
def uC (heap:List (Nat×Option aT)):List (Nat×Option aT)->Prop
 | []=>True
 | (t,none) :: r=>uC heap r
 | (t,some v) :: r=>aM heap t=some v/\uC heap r
theorem nT {heap:List (Nat×Option aT)}:∀ {e:List (Nat×Option aT)},uC heap e -> ∀ t v,aM e t=some v->aM heap t=some v
 | [],_,t,v,h=>by simp[aM] at h
 | (s,none) :: r,hc,t,v,h=>by
  rw[cl] at h;split at h
  ·cases h
  ·exact nT (e:=r) hc t v h
 | (s,some u) :: r,hc,t,v,h=>by
  rw[cl] at h;split at h
  ·rename_i e;subst e;injection h with h;subst h;exact hc.1
  ·exact nT (e:=r) hc.2 t v h
theorem WV {st bq:aW} (aa:bq.next=st.next) (az:bq.af=st.af) (hc:DT st.env bq.env) (hh:uC st.heap bq.heap):cg P n0 st bq:=
 fun F base w0 ρ a w hH ax=>by
  have aw:∀ b,bs F ρ st.heap b->bs F ρ bq.heap b:=fun b h=>⟨h.1,fun id B u an ae hu=>h.2 id B u (nT hh id B an) ae hu⟩
  refine ⟨ρ,⟨⟨hH.below,hH.fl,by rw[aa];exact hH.sup,fun id dk B bd u dD b an b0=>hH.inj id dk B bd u dD b (nT hh _ _ an) (nT hh _ _ b0),fun id B an=>?_⟩,hH.dX⟩,⟨by rw[az];exact ax.size,ax.defers,fun t v ak=>?_⟩,fun _ _=>rfl⟩
  ·exact(hH.cJ id B (nT hh id B an)).mono (dl.refl _ _) (fun b h _=>aw b h) (fun _ _ h=>h) (fun _ _ _ _ _ _=>rfl)
  ·exact(ax.slot t v (O4 hc t v ak)).mono (dl.refl _ _) (fun b h _=>aw b h) (fun _ _ h=>h)
def lM (n:Nat):V->Bool
 | .own id=>Nat.blt id n
 | .ptr id _ _ _=>Nat.blt id n
 | .agg cs=>l9 n cs
 | .bN cs=>l9 n cs
 | .fs _ cs=>l9 n cs
 | _=>true
where l9 (n:Nat):List V->Bool
 | []=>true
 | c :: cs=>lM n c && l9 n cs
theorem vx {n:Nat}:∀ {cs:List V},lM.l9 n cs=true -> ∀ j,j<cs.length->lM n (bw cs j)=true
 | [],_,j,h=>by simp at h
 | c :: cs,h,0,_=>by simp only[lM.l9,fM] at h;exact h.1
 | c :: cs,h,j+1,ad=>by
  simp only[lM.l9,fM] at h;have:=vx h.2 j kY;simpa[bw] using this
def vy (ρ:Nat->Option Value) (n:Nat):Nat->Option Value:=fun id=>bif Nat.blt id n then ρ id else none
theorem xC (h:vy ρ n id=some u):ρ id=some u/\id<n:=by
 unfold vy at h
 cases hb:Nat.blt id n with
 | false=>rw[hb] at h;cases h
 | true=>rw[hb] at h;exact⟨h,bM hb⟩
theorem pS (h:Nat.blt id n=true):vy ρ n id=ρ id:=by unfold vy;rw[h];rfl
theorem cT.cut {v:V} (h:cT ρ S w v u):lM n v=true->cT (vy ρ n) S w v u:=by
 induction h with
 | pure h=>exact fun _=>.pure h
 | own h=>exact fun hb=>.own (by rw[pS hb];exact h)
 | ptr h hb=>exact fun hn=>.ptr (by rw[pS hn];exact h) hb
 | fk us hS hc hr=>exact fun _=>.fk us hS hc hr
 | agg hn h bU=>exact fun hb=>.agg hn (fun j ad=>bU j ad (vx hb j ad))
 | bN hn h bU=>exact fun hb=>.bN hn (fun j ad=>bU j ad (vx hb j ad))
 | fs hn h bU=>exact fun hb=>.fs hn (fun j ad=>bU j ad (vx hb j ad))
 | any u=>exact fun _=>.any u
 | gN=>exact fun _=>.gN
def zU (n:Nat):List (Nat×V)->Bool
 | []=>true
 | (_,v) :: r=>lM n v && zU n r
theorem O5 {n:Nat}:∀ {e:List (Nat×V)},zU n e=true -> ∀ t v,cW e t=some v->lM n v=true
 | [],_,t,v,h=>by simp[cW] at h
 | (s,u) :: r,hc,t,v,h=>by
  simp only[zU,fM] at hc;simp only[cW] at h
  cases hb:Nat.beq s t with
  | true=>rw[hb] at h;simp only[cond_true,ck] at h;rw[<- h];exact hc.1
  | false=>rw[hb] at h;exact O5 hc.2 t v h
def O6 (n:Nat):Option aT->Bool
 | some (.box _ cs)=>lM.l9 n cs
 | some (.ch _ _ l)=>l.all (lM.l9 n)
 | _=>true
def zV (n:Nat):List (Nat×Option aT)->Bool
 | []=>true
 | (id,B) :: r=>Nat.blt id n && O6 n B && zV n r
theorem O7 {n:Nat}:∀ {e:List (Nat×Option aT)},zV n e=true -> ∀ id B,aM e id=some B->Nat.blt id n=true/\O6 n (some B)=true
 | [],_,t,v,h=>by simp[aM] at h
 | (s,u) :: r,hc,t,v,h=>by
  simp only[zV,fM] at hc;rw[cl] at h;split at h
  ·rename_i e;subst e;subst h;exact hc.1
  ·exact O7 hc.2 t v h
theorem WW {st:aW} (n:Nat) (hn:Nat.ble n0 n=true) (hle:Nat.ble n st.next=true) (qA:zU n st.env=true) (rl:zV n st.heap=true):cg P n0 st { st with next:=n }:=
 fun F base w0 ρ a w hH ax=>by
  have hS:∀ b,bs F ρ st.heap b->bs F (vy ρ n) st.heap b:=fun b h=>⟨h.1,fun id B u an ae hu=>h.2 id B u an ae (xC hu).1⟩
  refine ⟨vy ρ n,⟨⟨hH.below,hH.fl,fun id u hu=>⟨(xC hu).2,(hH.sup id u (xC hu).1).2⟩,fun id dk B bd u dD b an b0 ae dK hu c2=>hH.inj id dk B bd u dD b an b0 ae dK (xC hu).1 (xC c2).1,fun id B an=>?_⟩,hH.dX⟩,
   ⟨ax.size,ax.defers,fun t v ak=>?_⟩,fun id hid=>pS (by have:=bM hn;simp;omega)⟩
  ·have J:=hH.cJ id B an;obtain ⟨g1,g2⟩:=O7 rl id B an
   cases B with
   | box t cs=>
    obtain ⟨b,us,aL,aS,bi,cq,e3⟩:=J;exact⟨b,us,by rw[pS g1];exact aL,aS,bi,cq,fun j ad=>⟨((e3 j ad).1.cut (vx g2 j ad)).mono (dl.refl _ _) (fun b h _=>hS b h) (fun _ _ h=>h),(e3 j ad).2⟩⟩
   | row e s l=>
    obtain ⟨ai,v,xs,aL,aS,bi,cq⟩:=J
    exact⟨ai,v,xs,by rw[pS g1];exact aL,aS,bi,fun i j hi ad=>by
     obtain ⟨u,hu,ar,ae⟩:=cq i j hi ad
     exact⟨u,hu,ar.mono (dl.refl _ _) (fun b h _=>hS b h),ae⟩⟩
   | dY l=>
    obtain ⟨v,aL,aS,bi⟩:=J;exact⟨v,by rw[pS g1];exact aL,aS.mono (dl.refl _ _) (fun b h _=>hS b h),bi⟩
   | map q es=>
    obtain ⟨b,b3,clock,aL,aS⟩:=J;exact⟨b,b3,clock,by rw[pS g1];exact aL,aS⟩
   | obj o=>
    obtain ⟨b,aL,aS⟩:=J;exact⟨b,by rw[pS g1];exact aL,aS⟩
   | mV be lL=>
    obtain ⟨b,cap,cQ,jq,aL,aS⟩:=J;exact⟨b,cap,cQ,jq,by rw[pS g1];exact aL,aS⟩
   | ch e s l=>
    obtain ⟨ai,v,xs,aL,aS,bi,cq⟩:=J
    exact⟨ai,v,xs,by rw[pS g1];exact aL,aS,bi,fun i j hi ad=>by
     obtain ⟨u,hu,ar,ae⟩:=cq i j hi ad;have hm:bb l i ∈ l:=by unfold bb;rw[bZ,eB hi];exact List.getElem_mem hi
     exact⟨u,hu,(ar.cut (vx (lG.1 g2 _ hm) j (by rw[bi i hi];exact ad))).mono (dl.refl _ _) (fun b h _=>hS b h) (fun _ _ h=>h),ae⟩⟩
   | gF q es=>
    obtain ⟨b,b3,clock,aL,aS,bi⟩:=J;exact⟨b,b3,clock,by rw[pS g1];exact aL,hS b aS,bi⟩
   | iter left cQ=>
    obtain ⟨r,b,b3,clock,since,seen,dz,aL,aS,bi,cq,e3⟩:=J;exact⟨r,b,b3,clock,since,seen,dz,by rw[pS g1];exact aL,aS,bi,hS b cq,e3⟩
  ·exact((ax.slot t v ak).cut (O5 qA t v ak)).mono (dl.refl _ _) (fun b h _=>hS b h) (fun _ _ h=>h)
def q8 (P:Program) (f:FuncId):Bool:=
 match P.funcs[f]? with
 | some fn => fn.body.isSome && !(fn.name == "runtime.NumGoroutine")
 | none=>false
def Fn (P:Program) (f:FuncId) (args:List V) (r:V):Prop:=
 q8 P f=true /\ ∀ (w:World) (S:Nat->Prop) (fQ:Array Value),fQ.size=args.length->(∀ b,w.heap.size<=b->S b)->(∀ j,j<args.length->cT (fun _=>none) S w (bw args j) (fQ.getD j undef)) ->
  Calls P f fQ w fun e aF=>∃ v,e = .returned v/\Below w.heap.size w aF /\ cT (fun _=>none) S aF r v
theorem IJ {o:Oper} (ae:o.op = .call { callee:=.value (.func f),args:=xs,argTypes:=ts }) (hf:q8 P f=true) (a:Act) (w:World) :
  (execOp a.eval o).run P w = .ok (.enter f (xs.map a.eval)) w:=by
 unfold q8 at hf
 cases qx:P.funcs[f]? with
 | none=>rw[qx] at hf;cases hf
 | some fn=>
  rw[qx] at hf;simp only[fM,Bool.not_eq_true'] at hf;obtain ⟨J,aa⟩:=hf;obtain ⟨c,hc⟩:=Option.isSome_iff_exists.1 J;unfold execOp;rw[ae];have IK : fn.name ≠ "runtime.NumGoroutine" := fun e => by rw [e] at aa; simp at aa
  simp[resolve,Act.eval,Deferred.ofValue,invoke,callFunc,Sem.run_bind,Sem.run_pure,program,Sem.run,qx,hc,IK]
end
section
variable {P:Program} {n0:Nat}
def ih (heap:List (Nat×Option aT)):V->Option V
 | .lit u=>some (.lit u)
 | .ro l=>some (.ro l)
 | .own id=>match aM heap id with
  | some (.row _ _ l)=>some (.ro l)
  | some (.dY l)=>some (.ro l)
  | _=>none
 | .fk cs=>some (.fk cs)
 | .agg cs=>match o6 cs with
  | some eU=>some (.agg eU)
  | none=>none
 | .bN cs=>match o6 cs with
  | some eU=>some (.bN eU)
  | none=>none
 | _=>none
where o6:List V->Option (List V)
 | []=>some []
 | c :: cs=>match ih heap c,o6 cs with
  | some hM,some eU=>some (hM :: eU)
  | _,_=>none
theorem DU {heap:List (Nat×Option aT)}:∀ {cs eU:List V},ih.o6 heap cs=some eU -> eU.length=cs.length /\ ∀ j,j<cs.length->ih heap (bw cs j)=some (bw eU j)
 | [],eU,h=>by
  simp only[ih.o6,ck] at h;subst h;exact⟨rfl,fun j ad=>by simp at ad⟩
 | c :: cs,eU,h=>by
  simp only[ih.o6] at h;split at h
  ·rename_i hM O8 J aa;injection h with h;subst h;obtain ⟨aI,a7⟩:=DU aa;refine ⟨by simp[aI],fun j ad=>?_⟩
   cases j with
   | zero=>simpa[bw] using J
   | succ j=>
    have:=a7 j kY;simpa[bw] using this
  ·cases h
theorem DV {base:Nat} {v:Value} {xs:List Value} {l:List (List V)} (ai:0<s) (aa:w.ownsRow base e s v l.length xs) (az:∀ i,i<l.length->(bb l i).length=s) (bk:∀ i j,i<l.length->j<s -> ∃ u,xs[i * s+j]? = some u/\gn S w (bw (bb l i) j) u/\u.oneCell' = true) (hS:∀ b,S b->b<w.heap.size->iE b) (hb:∀ b,dU v=some b->iE b):gn iE w (.ro l) v:=by
 have hrel:∀ i j,i<l.length->j<s->gn iE w (bw (bb l i) j) (xs.getD (i * s+j) undef):=fun i j hi ad=>by
  obtain ⟨u,hu,ar,_⟩:=bk i j hi ad;have:xs.getD (i * s+j) undef=u:=by rw[bZ,hu];rfl
  rw[this];exact ar.mono (dl.refl _ _) hS
 rcases aa.2 with⟨rfl,ao⟩ | ⟨g,cap,cQ,rfl,tO,av,nv,qp,hN,pD⟩
 ·have hn:l.length=0:=ao;have:gn iE w (.ro l) (.slice none l.length 0):=.ro l none 0 s 0 0 (fun i j=>xs.getD (i * s+j) undef) (by omega) qN ai (fun h=>by omega) az (fun i j hi=>by omega) hrel;rwa [hn] at this
 ·refine .ro l _ cap s g 0 (fun i j=>xs.getD (i * s+j) undef) nv qp ai (fun _=>⟨rfl,hb g rfl⟩) az (fun i j hi ad=>?_) hrel;obtain ⟨u,hu,ar,_⟩:=bk i j hi ad;have aI:xs.getD (i * s+j) undef=u:=by rw[bZ,hu];rfl
  rw[aI,fy];exact IA aa rfl hu
theorem O9 {heap:List (Nat×Option aT)} {next:Nat} (hH:eA F base ρ heap next w0 w) (hS:∀ b,bs F ρ heap b->b<w.heap.size->iE b) (ae:∀ b,base b->b<w.heap.size->iE b) {v:V} (h:cT ρ (bs F ρ heap) w v u):∀ {cH},ih heap v=some cH -> cT (fun _=>none) iE w cH u:=by
 induction h with
 | pure h=>
  intro cH ak;have ar:=h.mono (dl.refl _ _) hS
  cases h with
  | lit=>simp only[ih,ck] at ak;subst ak;exact .pure ar
  | ro=>simp only[ih,ck] at ak;subst ak;exact .pure ar
 | @own id u h=>
  intro cH ak;simp only[ih] at ak;split at ak
  ·rename_i e s l hh;injection ak with ak;subst ak;obtain ⟨ai,v,xs,J,⟨aa,_⟩,az,bk⟩:=hH.cJ _ _ hh;rw[h] at J;injection J with J;subst J;exact .pure (DV ai aa az bk hS (fun b hb=>by have:=hH.owned hh rfl h hb;exact ae b this.1 this.2))
  ·rename_i l hh;injection ak with ak;subst ak;obtain ⟨v,J,aa,_⟩:=hH.cJ _ _ hh;rw[h] at J;injection J with J;subst J;exact .pure (aa.mono (dl.refl _ _) hS)
  ·cases ak
 | ptr=>intro cH ak;simp[ih] at ak
 | fk us pP hc hr=>
  intro cH ak;simp only[ih,ck] at ak;subst ak;exact .fk us (fun h=>hS _ (pP h) (qK (hc 0 h))) hc (fun j ad=>(hr j ad).mono (dl.refl _ _) hS)
 | agg hn h bU=>
  intro cH ak;simp only[ih] at ak;split at ak
  ·rename_i eU hN;injection ak with ak;subst ak;obtain ⟨aI,a7⟩:=DU hN;exact .agg (by rw[aI];exact hn) (fun j ad=>bU j (by omega) (a7 j (by omega)))
  ·cases ak
 | bN hn h bU=>
  intro cH ak;simp only[ih] at ak;split at ak
  ·rename_i eU hN;injection ak with ak;subst ak;obtain ⟨aI,a7⟩:=DU hN;exact .bN (by rw[aI];exact hn) (fun j ad=>bU j (by omega) (a7 j (by omega)))
  ·cases ak
 | fs=>intro cH ak;simp[ih] at ak
 | any=>intro cH ak;simp[ih] at ak
 | gN=>intro cH ak;simp[ih] at ak
def h3 (env:List (Nat×V)):List Operand->Option (List V)
 | []=>some []
 | x :: xs=>match aJ env x,h3 env xs with
  | some v,some vs=>some (v :: vs)
  | _,_=>none
theorem zW {ρ:Nat->Option Value} {S:Nat->Prop} {w:World} {af:Nat} {env:List (Nat×V)} {a:Act} (ax:e0 ρ S w af env a):∀ {xs:List Operand} {vs:List V},h3 env xs=some vs->vs.length=xs.length /\ ∀ j,j<vs.length->cT ρ S w (bw vs j) ((xs.map a.eval).getD j undef)
 | [],vs,h=>by
  simp only[h3,ck] at h;subst h;exact⟨rfl,fun j ad=>by simp at ad⟩
 | x :: xs,vs,h=>by
  simp only[h3] at h;split at h
  ·rename_i v cP J aa;injection h with h;subst h;obtain ⟨aI,a7⟩:=zW ax aa;refine ⟨by simp[aI],fun j ad=>?_⟩
   cases j with
   | zero=>simpa[bw] using df ax J
   | succ j=>
    have:=a7 j kY;simpa[bw] using this
  ·cases h
def rr:V->Bool
 | .lit _=>true
 | .agg cs=>xD cs
 | .bN cs=>xD cs
 | _=>false
where xD:List V->Bool
 | []=>true
 | c :: cs=>rr c && xD cs
theorem IL:∀ {cs:List V},rr.xD cs=true -> ∀ j,j<cs.length->rr (bw cs j)=true
 | [],_,j,h=>by simp at h
 | c :: cs,h,0,_=>by simp only[rr.xD,fM] at h;exact h.1
 | c :: cs,h,j+1,ad=>by
  simp only[rr.xD,fM] at h;have:=IL h.2 j kY;simpa[bw] using this
theorem WX {v:V} (h:cT ρ S w v u):rr v=true->cT bl iE aF v u:=by
 induction h with
 | pure h=>
  cases h with
  | lit _ h=>exact fun _=>.pure (.lit _ h)
  | ro=>intro h;cases h
 | agg hn h bU=>exact fun hb=>.agg hn (fun j ad=>bU j ad (IL hb j ad))
 | bN hn h bU=>exact fun hb=>.bN hn (fun j ad=>bU j ad (IL hb j ad))
 | _=>intro h;cases h
theorem Pa {o:Oper} {st:aW} {vs cP:List V} {r:V} {S:World->(Nat->Option Value)->(Nat->Prop)->Nat->Prop} (ae:o.op = .call { callee:=.value (.func f),args:=xs,argTypes:=ts }) (aN:mX st.af o.dst=true) (hf:Fn P f cP r) (U:h3 st.env xs.toList=some vs) (hlen:cP.length=vs.length) (hS:∀ F base w0 ρ w,eA F base ρ st.heap st.next w0 w->(∀ b,w.heap.size<=b->S w ρ F b)/\(∀ j u,j<vs.length->cT ρ (bs F ρ st.heap) w (bw vs j) u->cT (fun _=>none) (S w ρ F) w (bw cP j) u) /\ ∀ aF v,Below w.heap.size w aF -> cT (fun _=>none) (S w ρ F) aF r v->cT ρ (bs F ρ st.heap) aF r v) :
  GStep P n0 o st (st.put o.dst r):=fun F base w0 ρ a w hH ax=>by
 obtain ⟨g1,g2,g3⟩:=hS F base w0 ρ w hH;obtain ⟨aI,a7⟩:=zW ax U;unfold Oper.wp;rw[IJ ae hf.1 a w,Oper.upon_enter];have cZ:(xs.map a.eval).size=cP.length:=by
  rw[hlen,aI];simp
 refine (hf.2 w (S w ρ F) (xs.map a.eval) cZ g1 (fun j ad=>?_)).mono ?_
 ·rw[hlen] at ad;have h:=a7 j ad;have cC:(xs.toList.map a.eval).getD j undef=(xs.map a.eval).getD j undef:=by
   rw[bZ,gg,<- Array.toList_map];simp
  rw[cC] at h;exact g2 j _ ad h
 ·rintro e aF ⟨v,rfl,hb,ak⟩;obtain ⟨dg,db⟩:=DO st o.dst r;have aw:dl (bs F ρ st.heap) w aF:=fun b _ bW=>hb.block b bW
  refine ⟨ρ,by rw[dg,db];exact hH.grow hb,by rw[dg];exact(ax.mono aw (fun b h _=>h) (fun _ _ h=>h)).zS aN (g3 aF v hb ak),fun _ _ h=>h,fun _ _=>rfl⟩
theorem IM {heap:List (Nat×Option aT)} {next:Nat} (hH:eA F base ρ heap next w0 w) (hb:w.heap.size<=b):bs F ρ heap b:=
 ⟨hH.dX b (hH.fl b hb),fun id B u an ae hu hl=>by have:=(hH.owned an ae hu hl).2;omega⟩
theorem Pb {o:Oper} {st:aW} {vs:List V} {r:V} (ae:o.op = .call { callee:=.value (.func f),args:=xs,argTypes:=ts }) (aN:mX st.af o.dst=true) (U:h3 st.env xs.toList=some vs) (hb:lM.l9 0 vs=true) (hf:Fn P f vs r):GStep P n0 o st (st.put o.dst r):=
 Pa (S:=fun w ρ F=>bs F ρ st.heap) ae aN hf U rfl fun F base w0 ρ w hH=>⟨fun b hb=>IM hH hb,fun j u ad h=>(h.cut (vx hb j ad)).mono (dl.refl _ _) (fun b h _=>h) (fun id u h=>by have:=(xC h).2;omega),
  fun aF v cG h=>h.mono (dl.refl _ _) (fun b h _=>h) (fun id u h=>by cases h)⟩
theorem Pc {o:Oper} {st:aW} {vs cP:List V} {r:V} (ae:o.op = .call { callee:=.value (.func f),args:=xs,argTypes:=ts }) (aN:mX st.af o.dst=true) (U:h3 st.env xs.toList=some vs) (aw:ih.o6 st.heap vs=some cP) (hf:Fn P f cP r) (hr:rr r=true):GStep P n0 o st (st.put o.dst r):=by
 obtain ⟨aI,a7⟩:=DU aw;exact Pa (S:=fun w ρ F _=>True) ae aN hf U aI fun F base w0 ρ w hH=>⟨fun b hb=>trivial,fun j u ad h=>O9 hH (fun _ _ _=>trivial) (fun _ _ _=>trivial) h (a7 j ad),fun aF v cG h=>WX h hr⟩
mutual
inductive dt:V->V->Prop
 | refl (v:V):dt v v
 | nil:dt aX (.ro [])
 | agg {cs ds:List V} (h:ez cs ds):dt (.agg cs) (.agg ds)
 | bN {cs ds:List V} (h:ez cs ds):dt (.bN cs) (.bN ds)
inductive ez:List V->List V->Prop
 | nil:ez [] []
 | cons {c d:V} {cs ds:List V} (h:dt c d) (aw:ez cs ds):ez (c :: cs) (d :: ds)
end
theorem IP (c:V) (cs:List V) (j:Nat):bw (c :: cs) (j+1)=bw cs j:=by simp[bw]
mutual
theorem dt.rel {ρ:Nat->Option Value} {S:Nat->Prop} {w:World}:∀ {v cH:V},dt v cH -> ∀ {u:Value},cT ρ S w v u->cT ρ S w cH u
 | _,_,.refl v,u,h=>h
 | _,_,.nil,u,h=>by
  rw[fO h];exact .pure (.ro [] none 0 1 0 0 (fun _ _=>undef) (by simp) qN (by omega) (fun h=>by simp at h) (fun i hi=>by simp at hi) (fun i j hi=>by simp at hi) (fun i j hi=>by simp at hi))
 | _,_,.agg aw,u,h=>by
  have ao:=ez.rel (ρ:=ρ) (S:=S) (w:=w) aw
  cases h with
  | pure h=>cases h
  | agg hn h=>exact .agg (by rw[hn,ao.1]) (fun j ad=>ao.2 j (by rw[ao.1];exact ad) (h j (by rw[ao.1];exact ad)))
 | _,_,.bN aw,u,h=>by
  have ao:=ez.rel (ρ:=ρ) (S:=S) (w:=w) aw
  cases h with
  | pure h=>cases h
  | bN hn h=>exact .bN (by rw[hn,ao.1]) (fun j ad=>ao.2 j (by rw[ao.1];exact ad) (h j (by rw[ao.1];exact ad)))
theorem ez.rel {ρ:Nat->Option Value} {S:Nat->Prop} {w:World}:∀ {cs ds:List V},ez cs ds->cs.length=ds.length /\ ∀ j,j<cs.length -> ∀ {u:Value},cT ρ S w (bw cs j) u->cT ρ S w (bw ds j) u
 | _,_,.nil=>⟨rfl,fun j ad=>by simp at ad⟩
 | _,_,.cons h aw=>by
  have ao:=ez.rel (ρ:=ρ) (S:=S) (w:=w) aw;refine ⟨by simp[ao.1],fun j ad u hu=>?_⟩
  cases j with
  | zero=>exact dt.rel h hu
  | succ j=>
   rw[IP] at hu ⊢;exact ao.2 j kY hu
end
theorem Pd {vs cP:List V} {r:V} (hf:Fn P f cP r) (hw:ez vs cP):Fn P f vs r:=
 ⟨hf.1,fun w S fQ cZ hS iT=>by
  have ao:=fun j=>(ez.rel (ρ:=fun _=>none) (S:=S) (w:=w) hw).2 j
  have he:=(ez.rel (ρ:=fun _=>none) (S:=S) (w:=w) hw).1
  exact hf.2 w S fQ (by rw[cZ,he]) hS (fun j ad=>ao j (by rw[he];exact ad) (iT j (by rw[he];exact ad)))⟩
def q9:Nat->List V->List (Nat×V)
 | _,[]=>[]
 | k,v :: vs=>(k,v) :: q9 (k+1) vs
theorem Cn:∀ (k:Nat) (vs:List V) (t:Nat) (v:V),cW (q9 k vs) t=some v->k<=t/\t - k<vs.length/\v=bw vs (t - k)
 | k,[],t,v,h=>by simp[q9,cW] at h
 | k,x :: vs,t,v,h=>by
  simp only[q9,cW] at h
  cases hb:Nat.beq k t with
  | true=>
   rw[hb] at h;have:=iF hb;subst this;simp only[cond_true,ck] at h;subst h;exact⟨e4 _,by simp,by simp[bw]⟩
  | false=>
   rw[hb] at h;have ct:k≠t:=fun e=>by rw[e] at hb;simp at hb
   obtain ⟨J,aa,az⟩:=Cn (k+1) vs t v h;refine ⟨by omega,by simp;omega,?_⟩;rw[az];have:t - k=(t - (k+1))+1:=by omega
   rw[this];simp[bw]
def IQ (P:Program) (st:aW) (T:TypeId):V->Option V
 | .ptr id 0 _ j=>match aM st.heap id with
  | some (.box _ cs)=>match lp P T with
   | some true=>match dr P T with
    | some n=>bif Nat.ble n (cs.drop j).length then some (.agg ((cs.drop j).take n)) else none
    | none=>none
   | some false=>(cs.drop j)[0]?
   | none=>none
  | _=>none
 | _=>none
def tQ (P:Program) (st:aW):List ResultVar->Option (List V)
 | []=>some []
 | .tmp t :: h7=>match cW st.env t,tQ P st h7 with
  | some v,some vs=>some (v :: vs)
  | _,_=>none
 | .cell a T :: h7=>match cW st.env a with
  | some p=>match IQ P st T p,tQ P st h7 with
   | some v,some vs=>some (v :: vs)
   | _,_=>none
  | none=>none
def r1 (P:Program) (st:aW) (h7:List ResultVar):Option V:=
 match tQ P st h7 with
 | some [v]=>some v
 | some vs=>some (.bN vs)
 | none=>none
theorem WY {st:aW} {p v:V} (hH:eA F base ρ st.heap st.next w0 w) (ar:cT ρ (bs F ρ st.heap) w p u) (h:IQ P st T p=some v) :
  ∃ r,(loadVar T ⟨(match u with | .pointer (some a)=>a.block|_=>0),(match u with | .pointer (some a)=>a.off|_=>0),none⟩).run P w = .ok r w/\cT ρ (bs F ρ st.heap) w v r /\ ∃ b off,u = .pointer (some ⟨b,off,none⟩):=by
 unfold IQ at h;split at h
 ·rename_i id s j;split at h
  ·rename_i t cs hh;obtain ⟨b,off,us,J,aa,az⟩:=OS (G:=[]) (st:=st) (s:=s) (j:=j) hh rfl F base w0 ρ w u hH.toHRel0 rfl ar;subst J;split at h
   ·rename_i aY;split at h
    ·rename_i n hn
     cases hb:Nat.ble n (cs.drop j).length with
     | false=>rw[hb] at h;cases h
     | true=>
      rw[hb] at h;simp only[cond_true,ck] at h;subst h;have hle:=bM hb
      have:=OQ (P:=P) (T:=T) (n:=n) aY hn (b:=b) (off:=off) (us:=(Array.range n).map us) (w:=w) (by simp) (fun k ag=>by
       rw[az w (Ext.refl _ _) k (by omega)];simp[ag])
      simp only[Instr.loadAt,Instr.sureAddr,Sem.run_bind,Sem.run_pure,Result.andThen_ok] at this;refine ⟨_,this,.agg (by simp;simp at hle;omega) (fun k ag=>?_),b,off,rfl⟩;simp only[kO] at ag;have aI:bw ((cs.drop j).take n) k=bw (cs.drop j) k:=by unfold bw;rw[bZ,bZ,n7,al (by omega)]
      have a7:((Array.range n).map us).getD k undef=us k:=by simp[show k<n by omega]
      rw[aI,a7];exact aa k (by omega)
    ·cases h
   ·rename_i aY;have bW:0<(cs.drop j).length:=(ko.1 h).1;have e:bw (cs.drop j) 0=v:=by unfold bw;rw[bZ,h];rfl
    have:=az w (Ext.refl _ _) 0 bW;simp only[kq] at this;have hr:=OP (P:=P) (T:=T) aY this;simp only[Instr.loadAt,Instr.sureAddr,Sem.run_bind,Sem.run_pure,Result.andThen_ok] at hr;exact⟨_,hr,by rw[<- e];exact aa 0 bW,b,off,rfl⟩
   ·cases h
  ·cases h
 ·cases h
def zX (tmps:Array Value):ResultVar->Sem Value
 | .tmp t=>pure (tmps.getD t undef)
 | .cell b t=>asAddr (tmps.getD b undef) >>= loadVar t
theorem WZ (fn:Func) (tmps:Array Value):results fn tmps=(fn.results.mapM (zX tmps) >>= fun vs=>pure (if h:vs.size=1 then vs[0] else .tuple vs)):=by
 unfold results;congr 1
theorem IR {F:Nat->Prop} {base:Nat->Prop} {ρ:Nat->Option Value} {w0 w:World} {st:aW} {a:Act} (hH:eA F base ρ st.heap st.next w0 w) (ax:e0 ρ (bs F ρ st.heap) w st.af st.env a):∀ {h7:List ResultVar} {vs:List V},tQ P st h7=some vs ->
  ∃ us:List Value,us.length=vs.length/\(h7.mapM (zX a.tmps)).run P w = .ok us w /\ ∀ j,j<vs.length->cT ρ (bs F ρ st.heap) w (bw vs j) (us.getD j undef)
 | [],vs,h=>by
  simp only[tQ,ck] at h;subst h;exact⟨[],rfl,by simp[Sem.run_pure],fun j ad=>by simp at ad⟩
 | .tmp t :: h7,vs,h=>by
  simp only[tQ] at h;split at h
  ·rename_i v cP J aa;injection h with h;subst h;obtain ⟨us,aI,a7,cC⟩:=IR hH ax aa;refine ⟨a.tmps.getD t undef :: us,by simp[aI],by simp only[List.mapM_cons,zX,Sem.run_bind,Sem.run_pure,Result.andThen_ok,a7],fun j ad=>?_⟩
   cases j with
   | zero=>simpa[bw] using ax.slot t v J
   | succ j=>
    have:=cC j kY;simpa[bw] using this
  ·cases h
 | .cell b T :: h7,vs,h=>by
  simp only[tQ] at h;split at h
  ·rename_i p ar;split at h
   ·rename_i v cP J aa;injection h with h;subst h;obtain ⟨us,aI,a7,cC⟩:=IR hH ax aa;obtain ⟨r,g1,g2,fD,off,g3⟩:=WY (P:=P) hH (ax.slot b p ar) J;rw[g3] at g1;refine ⟨r :: us,by simp[aI],?_,fun j ad=>?_⟩
    ·have hr:(zX a.tmps (.cell b T)).run P w = .ok r w:=by
      simp only[zX,g3,asAddr,Sem.run_bind,Sem.run_pure,Result.andThen_ok];exact g1
     simp only[List.mapM_cons,Sem.run_bind,hr,Sem.run_pure,Result.andThen_ok,a7]
    ·cases j with
     | zero=>simpa[bw] using g2
     | succ j=>
      have:=cC j kY;simpa[bw] using this
   ·cases h
  ·cases h
theorem Gr {st:aW} {v:V} (hH:eA F base ρ st.heap st.next w0 w) (ax:e0 ρ (bs F ρ st.heap) w st.af st.env a) (h:r1 P st fn.results.toList=some v) :
  ∃ u,(results fn a.tmps).run P w = .ok u w/\cT ρ (bs F ρ st.heap) w v u:=by
 unfold r1 at h
 cases hr:tQ P st fn.results.toList with
 | none=>rw[hr] at h;cases h
 | some vs=>
  obtain ⟨us,aI,a7,cC⟩:=IR hH ax hr;have jB:(results fn a.tmps).run P w = .ok (if h:us.toArray.size=1 then us.toArray[0] else .tuple us.toArray) w:=by
   rw[WZ,Array.mapM_eq_mapM_toList];simp only[Sem.run_bind,Sem.run_map,a7,Result.andThen_ok,Sem.run_pure]
  rw[hr] at h;refine ⟨_,jB,?_⟩;by_cases J:vs.length=1
  ·obtain ⟨x,rfl⟩:=List.length_eq_one_iff.1 J;simp only[ck] at h;subst h;obtain ⟨y,rfl⟩:=List.length_eq_one_iff.1 (aI.trans J);simpa[bw] using cC 0 (by simp)
  ·have ak:v = .bN vs:=by
    match vs,J,h with
    | [],_,h=>injection h with h;exact h.symm
    | [x],J,_=>exact absurd rfl J
    | x :: y :: r,_,h=>injection h with h;exact h.symm
   subst ak;have ct:¬ us.toArray.size=1:=by simp;omega
   rw[dif_neg ct];exact .bN (by simp[aI]) (fun j ad=>by have:=cC j ad;simpa using this)
def Ends (P:Program) (fn:Func) (r:V) (e:Exit) (st:aW):Prop:=
 ∃ _:e = .ret\/e = .normal,∃ v gm,r1 P st fn.results.toList=some v/\ih st.heap v=some gm /\ dt gm r
theorem W0 {args:List V} {r:V} (bP:q8 P f=true) (hf:P.funcs[f]? = some fn) (hb:fn.body=some c) (hn:Nat.ble args.length fn.ntmps=true) (h:cE P 0 c ⟨q9 0 args,[],0,fn.ntmps⟩ (Ends P fn r)):Fn P f args r:=by
  refine ⟨bP,fun w S fQ cZ hS iT=>calls_of_wp hf hb ?_⟩;have hn:=bM hn;have hH:eA S (fun b=>w.heap.size<=b) (fun _=>none) [] 0 w w:=
    { below := o3.refl _ _
      fl:=fun b hb=>hb
      dX:=hS
      sup:=fun id u h=>by cases h
      inj:=fun id dk B bd u dD b h=>by cases h
      cJ:=fun id B h=>by cases h }
  have zJ:∀ b,bs S (fun _=>none) [] b ↔ S b:=fun b=>⟨fun h=>h.1,fun h=>⟨h,fun id B u an=>by simp[aM] at an⟩⟩
  have ax:e0 (fun _=>none) (bs S (fun _=>none) []) w fn.ntmps (q9 0 args) { tmps:=fQ++Array.replicate (fn.ntmps - fQ.size) undef,defers:=[] }:=by
    refine ⟨by simp;omega,rfl,fun t v ak=>?_⟩;obtain ⟨_,aa,rfl⟩:=Cn 0 args t v ak;rw[Nat.sub_zero] at *;have:=iT t aa;have e:(fQ++Array.replicate (fn.ntmps - fQ.size) undef).getD t undef=fQ.getD t undef:=by
      simp[Array.getElem?_append,show t<fQ.size by omega]
    rw[e];exact this.mono (dl.refl _ _) (fun b h _=>(zJ b).2 h) (fun _ _ h=>h)
  refine wp_mono (h S (fun b=>w.heap.size<=b) w (fun _=>none) _ w hH ax) ?_;rintro e hx aF ⟨bl,bq,⟨he,v,gm,ak,hr,p2⟩,J,aa,_⟩;obtain ⟨u,g1,g2⟩:=Gr (fn:=fn) J aa ak;have r3:cT (fun _=>none) S aF r u:=p2.rel (O9 J (fun b h _=>h.1) (fun b h _=>hS b h) g2 hr);rcases he with rfl|rfl
  · exact⟨aa.defers,u,g1,u,rfl,J.below.OE,r3⟩
  · exact⟨aa.defers,u,g1,u,rfl,J.below.OE,r3⟩
end
end
variable {B:aT} {E jW:List (Nat×V)} {H Hn dX h:List (Nat×Option aT)} {cP cs ds vs:List V} {gm r v:V} {l:List (List V)}
section
open Go.RowKit
section
variable {P:Program} {G:List Nat} {o:Oper} {st:aW} {n0:Nat}
def pT (place:Nat->Option (Nat×Nat)) (cells:List V):List (Nat×List V)->Option (List V)
 | []=>some cells
 | (i,v) :: rest=>match place i with
  | none=>none
  | some (off,size)=>bif Nat.beq v.length size && Nat.ble (off+v.length) cells.length then pT place (setAt off v cells) rest else none
def IS (P:Program) (T:TypeId):Option (Nat->Option (Nat×Nat)):=
 match P.info? T,P.underlying T with
 | some it,some (.array _ e)=>
  match it.zero,P.info? e with
  | some z,some sE=>some (fun i=>some (i * sE.size,sE.size))
  | _,_=>none
 | some it,some (.struct fields)=>
  match it.zero,fields.toList.mapM (fun f=>(P.info? f.type).map fun i=>(f.offset,i.size)) with
  | some z,some Pe=>some (Pe[·]?)
  | _,_=>none
 | _,_=>none
def mo (env:List (Nat×V)):List (Nat×Operand)->Option (List (Nat×List V))
 | []=>some []
 | (i,x) :: r=>match aJ env x with
  | some v=>match flat v,mo env r with
   | some cs,some c5=>some ((i,cs) :: c5)
   | _,_=>none
  | none=>none
def tR (ρ:Nat->Option Value) (S:Nat->Prop) (w:World) (cs:List V) (us:Array Value):Prop:=
 us.size=cs.length /\ ∀ j,j<cs.length->cT ρ S w (bw cs j) (us.getD j undef)/\(us.getD j undef).oneCell' = true
theorem Pf (off:Nat):∀ (l:List Value) (k:Nat) (cs:Array Value),off+k+l.length<=cs.size ->
  ((l.zipIdx k).foldl (fun cs (x:Value×Nat)=>cs.setIfInBounds (off+x.2) x.1) cs).size=cs.size /\
  ∀ i,i<cs.size->((l.zipIdx k).foldl (fun cs (x:Value×Nat)=>cs.setIfInBounds (off+x.2) x.1) cs).getD i undef=if off+k<=i/\i<off+k+l.length then l.getD (i - off - k) undef else cs.getD i undef
 | [],k,cs,_=>⟨rfl,fun i hi=>by simp only[List.zipIdx_nil,List.foldl_nil,fg,kq];rw[ah (by omega)]⟩
 | v :: l,k,cs,h=>by
  simp only[eb] at h;obtain ⟨J,aa⟩:=Pf off l (k+1) (cs.setIfInBounds (off+k) v) (by simp;omega);simp only[List.zipIdx_cons,List.foldl_cons];refine ⟨by rw[J];simp,fun i hi=>?_⟩;rw[aa i (by simpa using hi)];simp only[eb];by_cases e:i=off+k
  ·subst e;rw[ah (by omega),al (by omega)];have:off+k - off - k=0:=by omega
   rw[this,gg,Array.getElem?_setIfInBounds_self_of_lt hi];simp
  ·have mi:(cs.setIfInBounds (off+k) v).getD i undef=cs.getD i undef:=by
    rw[gg,gg,Array.getElem?_setIfInBounds_ne (by omega)]
   rw[mi];by_cases hh:off+(k+1)<=i/\i<off+(k+1)+l.length
   ·rw[al hh,al (by omega)];have:i - off - k=(i - off - (k+1))+1:=by omega
    rw[this];simp
   ·rw[ah hh,ah (by omega)]
theorem IT {ρ:Nat->Option Value} {S:Nat->Prop} {w:World} {place:Nat->Option (Nat×Nat)}:∀ (c5:List (Nat×List V)) (us:List (Nat×Value)) (cs:List V) (cells:Array Value) (r:List V),tR ρ S w cs cells ->
  c5.length=us.length->(∀ k,k<c5.length->(c5.getD k (0,[])).1=(us.getD k (0,undef)).1/\tR ρ S w (c5.getD k (0,[])).2 (us.getD k (0,undef)).2.cells)->pT place cs c5=some r -> ∃ qO,Instr.fill place cells us=some qO /\ tR ρ S w r qO
 | [],[],cs,cells,r,hc,_,_,h=>by
  simp only[pT,ck] at h;subst h;exact⟨cells,rfl,hc⟩
 | (i,v) :: c5,(zY,u) :: us,cs,cells,r,hc,ao,ar,h=>by
  have ai:=ar 0 (by simp);simp only[List.getD_cons_zero] at ai;obtain ⟨e,ak⟩:=ai;subst e;simp only[pT] at h;split at h
  ·cases h
  ·rename_i off size hI
   cases hb:(Nat.beq v.length size && Nat.ble (off+v.length) cs.length) with
   | false=>rw[hb] at h;cases h
   | true=>
    rw[hb] at h;simp only[cond_true] at h;simp only[fM] at hb;have nN:=iF hb.1;have k3:=bM hb.2;obtain ⟨ta,wJ⟩:=hc;obtain ⟨IU,Hr⟩:=ak;have Pg:=Pf off u.cells.toList 0 cells (by simp;omega);have Ph:(u.cells.zipIdx.foldl (fun cs (c,j)=>cs.setIfInBounds (off+j) c) cells)=((u.cells.toList.zipIdx 0).foldl (fun cs (x:Value×Nat)=>cs.setIfInBounds (off+x.2) x.1) cells):=by
     rw[<- Array.foldl_toList,Array.toList_zipIdx]
    obtain ⟨qO,g1,g2⟩:=IT c5 us (setAt off v cs) (u.cells.zipIdx.foldl (fun cs (c,j)=>cs.setIfInBounds (off+j) c) cells) r
     ⟨by rw[Ph,Pg.1,sB];exact ta,fun j ad=>by
      rw[sB] at ad;rw[xA _ _ _ k3,Ph,Pg.2 j (by omega)];simp only[kq,Nat.sub_zero,pQ,IU];by_cases hh:off<=j/\j<off+v.length
      ·rw[al hh,al hh];have:=Hr (j - off) (by omega);have a7:u.cells.toList.getD (j - off) undef=u.cells.getD (j - off) undef:=by rw[bZ,gg];simp
       rw[a7];exact this
      ·rw[ah hh,ah hh];exact wJ j ad⟩
     (by simpa using ao) (fun k ag=>by have:=ar (k+1) (by simp;omega);simpa using this) h
    refine ⟨qO,?_,g2⟩;simp only[Instr.fill,hI];rw[ah (by simp;omega)];exact g1
theorem IV {ρ:Nat->Option Value} {S:Nat->Prop} {w:World} {af:Nat} {env:List (Nat×V)} {a:Act} (ax:e0 ρ S w af env a) (ff:∀ id x,ρ id=some x->x.oneCell' = true):∀ {xs:List (Nat×Operand)} {c5:List (Nat×List V)},mo env xs=some c5 ->
  c5.length=(xs.map fun (i,x)=>(i,a.eval x)).length /\ ∀ k,k<c5.length->(c5.getD k (0,[])).1=((xs.map fun (i,x)=>(i,a.eval x)).getD k (0,undef)).1/\tR ρ S w (c5.getD k (0,[])).2 ((xs.map fun (i,x)=>(i,a.eval x)).getD k (0,undef)).2.cells
 | [],c5,h=>by
  simp only[mo,ck] at h;subst h;exact⟨rfl,fun k ag=>by simp at ag⟩
 | (i,x) :: r,c5,h=>by
  simp only[mo] at h;split at h
  ·rename_i v ak;split at h
   ·rename_i cs W1 J aa;injection h with h;subst h;obtain ⟨aI,a7⟩:=IV ax ff aa;refine ⟨by simp[aI],fun k ag=>?_⟩
    cases k with
    | zero=>exact⟨rfl,zM (df ax ak) J ff⟩
    | succ k=>have:=a7 k (by simpa using ag);simpa using this
   ·cases h
  ·cases h
theorem W2 {parts:Array (Nat×Operand)} {c5:List (Nat×List V)} {pl:Nat->Option (Nat×Nat)} {z:List V} (ae:o.op = .build T parts) (aU:gZ P T=some z) (hI:IS P T=some pl) (ar:mo st.env parts.toList=some c5) (hf:pT pl z c5=some cs) :
  bu P G o st (.agg cs):=iP fun F base w0 ρ a w hH ax=>by
 obtain ⟨rs,rfl,ln,xz⟩:=DM aU;obtain ⟨aI,a7⟩:=IV ax (fun id x h=>(hH.sup id x h).2) ar;obtain ⟨qO,g1,g2⟩:=IT (place:=pl) c5 _ _ rs.cells cs (IC (ρ:=ρ) (S:=bs F ρ st.heap) (w:=w) ln) aI a7 hf;have W3:P.built T ((parts.map fun (i,x)=>(i,a.eval x)).toList)=some qO:=by
  rw[Array.toList_map];unfold IS at hI;unfold Program.built;split at hI
  ·rename_i it N e zZ hu;rw[zZ,hu];simp only[];split at hI
   ·rename_i z sE z1 IW;injection hI with hI;subst hI;have ma:=xz w;simp[zeroValue,typeInfo,zZ,z1,Sem.run_bind,Sem.run_pure,program,Sem.run] at ma;subst ma;rw[z1,IW];exact g1
   ·cases hI
  ·rename_i it fields zZ hu;rw[zZ,hu];simp only[];split at hI
   ·rename_i z Pe z1 IW;injection hI with hI;subst hI;have ma:=xz w;simp[zeroValue,typeInfo,zZ,z1,Sem.run_bind,Sem.run_pure,program,Sem.run] at ma;subst ma;rw[z1,IW];simpa using g1
   ·cases hI
  ·cases hI
 refine ⟨.agg qO,.agg g2.1 (fun j ad=>(g2.2 j ad).1),fun aF=>?_⟩;unfold execOp;rw[ae];simp only[Sem.run_bind,run_build aF T _ qO W3];rfl
end
end
section
open Go.RowKit
section
variable {P:Program} {G:List Nat} {o:Oper} {st:aW} {n0:Nat}
def ij (heap:List (Nat×Option aT)):V->Option (List (List V))
 | .ro l=>some l
 | .lit (.slice none 0 _)=>some []
 | .own id=>match aM heap id with
  | some (.row _ _ l)=>some l
  | some (.dY l)=>some l
  | _=>none
 | _=>none
theorem Pj (h:gn S w (.ro l) u) (aw:∀ i,i<l.length->(bb l i).length=s) :
  ∃ A c,∃ news:List Value,u = .slice A l.length c/\news.length=l.length * s/\(l.length=0 \/ ∃ a,A=some a /\ ∀ j u,news[j]? = some u->w.cell? (a.add j)=some u) /\ ∀ i j,i<l.length->j<s -> ∃ u,news[i * s+j]? = some u/\gn S w (bw (bb l i) j) u:=by
 generalize ak:V.ro l=v at h
 cases h with
 | lit=>cases ak
 | ro dW A c dP b off us hc hm ar dC cZ kX hrel=>
  injection ak with ak;subst ak;by_cases ai:0<l.length
  ·have e:dP = s:=by rw[<- cZ 0 ai,aw 0 ai]
   subst e;refine ⟨A,c,(List.range (l.length * dP)).map fun k=>us (k / dP) (k % dP),rfl,by simp,.inr ⟨⟨b,off,none⟩,(dC ai).1,fun j u ad=>?_⟩,fun i j hi ad=>⟨us i j,?_,hrel i j hi ad⟩⟩
   ·have bW:j<l.length * dP:=by
     have:=(ko.1 ad).1;simpa using this
    have hu:us (j / dP) (j % dP)=u:=by
     rw[qn,List.getElem?_range bW] at ad;simpa using ad
    have hd:j / dP < l.length:=Nat.div_lt_of_lt_mul (by rw[Nat.mul_comm];exact bW);have:=kX (j / dP) (j % dP) hd (Nat.mod_lt _ ar);have z6:j / dP * dP + j % dP = j:=by rw[Nat.mul_comm];exact Nat.div_add_mod j dP
    rw[sz,<- hu,<- this,Nat.add_assoc,z6]
   ·have bW:i * dP + j<l.length * dP:=by
     have:(i+1) * dP <= l.length * dP:=kk dP hi;have aa:(i+1) * dP = i * dP + dP:=nG i dP;omega
    rw[qn,List.getElem?_range bW];have J:(i * dP + j) / dP = i:=by
     rw[Nat.mul_comm,Nat.mul_add_div ar,Nat.div_eq_of_lt ad];rfl
    have aa:(i * dP + j) % dP = j:=by
     rw[Nat.mul_comm,Nat.mul_add_mod,Nat.mod_eq_of_lt ad]
    simp[J,aa]
  ·have lR:l.length=0:=by omega
   refine ⟨A,c,[],rfl,by simp[lR],.inl lR,fun i j hi=>by omega⟩
theorem IX {heap:List (Nat×Option aT)} {next:Nat} (hH:HRel0 F base ρ heap next w0 w) (h:cT ρ (bs F ρ heap) w v u) (ak:ij heap v=some l) (aw:∀ i,i<l.length->(bb l i).length=s) (ai:0<s) :
  ∃ A c,∃ news:List Value,u = .slice A l.length c/\news.length=l.length * s/\(l.length=0 \/ ∃ a,A=some a /\ ∀ j u,news[j]? = some u->w.cell? (a.add j)=some u) /\ ∀ i j,i<l.length->j<s -> ∃ u,news[i * s+j]? = some u/\gn (bs F ρ heap) w (bw (bb l i) j) u:=by
 cases v with
 | ro dW=>
  simp only[ij,ck] at ak;subst ak
  cases h with
  | pure h=>exact Pj h aw
 | lit x=>
  have e:=fO h;subst e
  cases u with
  | slice A n c=>
   cases A with
   | none=>
    cases n with
    | zero=>
     simp only[ij,ck] at ak;subst ak;exact⟨none,c,[],rfl,by simp,.inl rfl,fun i j hi=>by simp at hi⟩
    | succ=>simp[ij] at ak
   | some=>simp[ij] at ak
  | _=>simp[ij] at ak
 | own id=>
  have J:=j8 h;simp only[ij] at ak;split at ak
  ·rename_i e dP dW hh;injection ak with ak;subst ak;obtain ⟨g0,v,xs,g1,⟨g2,_⟩,g3,g4⟩:=hH.cJ _ _ hh;rw[J] at g1;injection g1 with g1;subst g1;by_cases lR:0<dW.length
   ·have es:dP = s:=by rw[<- g3 0 lR,aw 0 lR]
    subst es;rcases g2.2 with⟨_,hn⟩ | ⟨g,cap,cQ,W4,_⟩
    ·omega
    ·subst W4;exact⟨_,_,xs,rfl,g2.1,.inr ⟨_,rfl,g2.cells rfl⟩,fun i j hi ad=>by obtain ⟨u,aL,aS,_⟩:=g4 i j hi ad;exact⟨u,aL,aS⟩⟩
   ·have hn:dW.length=0:=by omega
    rcases g2.2 with⟨rfl,_⟩ | ⟨g,cap,cQ,rfl,_⟩
    ·exact⟨_,_,[],by rw[hn],by simp[hn],.inl hn,fun i j hi=>by omega⟩
    ·exact⟨_,_,[],rfl,by simp[hn],.inl hn,fun i j hi=>by omega⟩
  ·rename_i dW hh;injection ak with ak;subst ak;obtain ⟨v,g1,g2,g3⟩:=hH.cJ _ _ hh;rw[J] at g1;injection g1 with g1;subst g1;exact Pj g2 aw
  ·cases ak
 | _=>simp[ij] at ak
theorem IY {base:Nat} {ty e:TypeId} {i:TypeInfo} {z:Value} (ht:P.underlying t=some (.slice e)) (hi:P.info? e=some i) (aU:i.zero=some z) (aw:i.size=s) (hb:i.bytes=by_) (tS:z.cells.size=s) (ai:0<s) {v:Value} {xs:List Value} (kr:w.ownsRow base e s v n xs) {m c:Nat} (ao:news.length=m * s) (dC:m=0 \/ ∃ a,A=some a /\ ∀ j u,news[j]? = some u->w.cell? (a.add j)=some u) (J:∀ u ∈ news,u.oneCell' = true) (h63:n+m<=maxLen) (fp:(n+m) * by_<=140737488355328) (fl:base<=w.heap.size) :
  ∃ cH aF,(Builtin.append_ #[t,t] ty #[v,.slice A m c]).run P w = .ok cH aF /\ aF.ownsRow base e s cH (n+m) (xs++news)/\w.grownBy aF v.ownBlock/\(dU cH = dU v \/ ∀ b,dU cH = some b->w.heap.size<=b):=by
 have key:∀ a:Addr,A=some a->(∀ j u,news[j]? = some u->w.cell? (a.add j)=some u) -> ∃ cH aF,(Builtin.append_ #[t,t] ty #[v,.slice A m c]).run P w = .ok cH aF /\ aF.ownsRow base e s cH (n+m) (xs++news)/\w.grownBy aF v.ownBlock/\(dU cH = dU v \/ ∀ b,dU cH = some b->w.heap.size<=b):=by
  rintro a rfl xE;obtain ⟨cH,aF,hr,ae,av,pL⟩:=run_append_own (P:=P) (w:=w) base t ty e i z s by_ ht hi aU aw hb tS ai v n xs kr a m c news ao xE J h63 fp fl;refine ⟨cH,aF,hr,ae,av,?_⟩;have ab4:n+m<=9223372036854775807:=by simp only[maxLen] at h63;omega
  subst aw hb;rcases kr.2 with⟨rfl,rfl⟩ | ⟨g,cap,cQ,rfl,tO,W5,nv,qp,hN,pD⟩
  ·by_cases hm:m=0
   ·have:=pL.2 ⟨rfl,hm⟩;rw[this];exact .inl rfl
   ·have tT:=run_append_nil (P:=P) w t ty e i z ht hi aU a m c news ao xE (by omega) (by omega) (by have hb:=fp;simp only[fy] at hb;omega);rw[hr] at tT;injection tT with aI _;rw[aI];exact .inr (fun b hb=>by simp only[dU,ck] at hb;omega)
  ·by_cases W6:n+m<=cap
   ·obtain ⟨du,tT,_⟩:=run_append_fits (P:=P) (w:=w) base t ty e i i.size ht hi rfl g n cap xs kr a m c news ao xE J W6;rw[hr] at tT;injection tT with aI _;rw[aI];exact .inl rfl
   ·have tT:=run_append_grow (P:=P) w t ty e i z ht hi aU ⟨g,0,none⟩ n cap xs kr.1 (kr.cells (g:=g) rfl) a m c news ao xE (by omega) (by omega) (growslice_fits (by omega) fp);rw[hr] at tT;injection tT with aI _;rw[aI];exact .inr (fun b hb=>by simp only[dU,ck] at hb;omega)
 cases A with
 | some a=>
  rcases dC with hm | ⟨hx,br,xE⟩
  ·subst hm;have hn:news=[]:=pj (by simpa using ao);subst hn;exact key a rfl (fun j u h=>by simp at h)
  ·injection br with br;subst br;exact key a rfl xE
 | none=>
  have hm:m=0:=by rcases dC with h | ⟨a,h,_⟩;exact h;cases h
  subst hm;have hn:news=[]:=pj (by simpa using ao);subst hn;refine ⟨v,w,?_,by simpa using kr,⟨rfl,rfl,rfl,e4 _,fun _ _ _=>rfl⟩,.inl rfl⟩;rcases kr.2 with⟨rfl,rfl⟩ | ⟨g,cap,cQ,rfl,tO,W5,nv,qp,hN,pD⟩
  ·simp[Builtin.append_,run_underlying ht,sizeOf,typeInfo,hi,Builtin.lenOf,Builtin.firstCells,Sem.run_bind,Sem.run_pure,program,Sem.run]
  ·simp[Builtin.append_,run_underlying ht,sizeOf,typeInfo,hi,Builtin.lenOf,Builtin.firstCells,Sem.run_bind,Sem.run_pure,program,Sem.run,nv,storeCells]
def jw (P:Program) (T:TypeId):Option Nat:=(P.info? T).map (·.bytes)
theorem DW (aw:dr P e=some s) (hb:jw P e=some by_) (aU:∃ z,gZ P e=some z/\z.length=s):∃ i z,P.info? e=some i/\i.zero=some z/\i.size=s/\i.bytes=by_/\z.cells.size=s:=by
 obtain ⟨rs,kZ,ln⟩:=aU;unfold gZ at kZ;unfold dr at aw;unfold jw at hb
 cases hi:P.info? e with
 | none=>rw[hi] at aw;cases aw
 | some i=>
  rw[hi] at aw hb kZ;simp only[Option.map_some,ck] at aw hb;simp only[] at kZ
  cases ma:i.zero with
  | none=>rw[ma] at kZ;cases kZ
  | some z=>
   rw[ma] at kZ;simp only[] at kZ
   cases hl:z.cells.toList.all (fun u=>u.oneCell') with
   | false=>rw[hl] at kZ;cases kZ
   | true=>
    rw[hl] at kZ;simp only[cond_true,ck] at kZ;refine ⟨i,z,rfl,ma,aw,hb,?_⟩;rw[<- ln,<- kZ];simp
theorem gn.one (h:gn S w v u):u.oneCell' = true:=by
 cases h with
 | lit _ h=>exact h
 | ro=>rfl
theorem Pk (ai:0<s) (ao:news.length=l.length * s) (h:∀ i j,i<l.length->j<s -> ∃ u,news[i * s+j]? = some u/\gn S w (bw (bb l i) j) u):∀ u ∈ news,u.oneCell' = true:=by
 intro u hu;obtain ⟨k,ag,rfl⟩:=List.getElem_of_mem hu;have hd:k / s<l.length:=Nat.div_lt_of_lt_mul (by rw[Nat.mul_comm];omega);obtain ⟨u,mv,ar⟩:=h (k / s) (k % s) hd (Nat.mod_lt _ ai);have z6:k / s * s+k % s=k:=by rw[Nat.mul_comm];exact Nat.div_add_mod k s
 rw[z6,eB ag] at mv;injection mv with mv;rw[mv];exact ar.one
theorem mf (l m:List (List V)) (i:Nat):bb (l++m) i=if i<l.length then bb l i else bb m (i - l.length):=by
 unfold bb;rw[bZ,bZ,bZ,List.getElem?_append];split <;> rfl
theorem IZ {k:Nat} {t:Nat} {m:List (List V)} (ae:o.op = .call { callee:=.builtin .append,args:=#[x,y],argTypes:=#[t,t] }) (hd:o.dst=some d) (aN:Nat.blt d st.af=true) (U:aJ st.env x=some (.own id)) (hh:aM st.heap id=some (.row e s l)) (aj:aJ st.env y=some v) (ak:ij st.heap v=some m) (ht:P.underlying t=some (.slice e)) (aw:dr P e=some s) (hb:jw P e=some by_) (aU:∃ z,gZ P e=some z/\z.length=s) (hm:∀ i,i<m.length->(bb m i).length=s) (fp:(l.length+m.length) * by_<=140737488355328) (h63:l.length+m.length<=9223372036854775807) :
  kU P k o st { env:=(d,.own k) :: st.env,heap:=(k,some (.row e s (l++m))) :: (id,none) :: st.heap,next:=st.next,af:=st.af }:=fun F base w0 ρ a w hH ax fY ag=>by
 obtain ⟨i,z,hi,kZ,cZ,hl,tS⟩:=DW aw hb aU;have lN:=j8 (df ax U);obtain ⟨ai,r,xs,J,⟨aa,DX⟩,az,bk⟩:=hH.cJ _ _ hh;rw[lN] at J;injection J with J;subst J;obtain ⟨A,c,news,hu,om,dC,hrel⟩:=IX hH.toHRel0 (df ax aj) ak hm ai;have lH:=Pk ai om hrel;obtain ⟨cH,aF,hr,kr,av,hB⟩:=IY (P:=P) (ty:=o.type) ht hi kZ cZ hl tS ai aa (c:=c) om dC lH qN fp (cm _);have hid:id≠k:=fun e=>by rw[e,fY] at lN;cases lN
 have kG:∀ id x,ρ id=some x->jZ ρ k cH id=some x:=fun id x h=>by rw[jd _ _ (fun e=>by rw[e,fY] at h;cases h)];exact h
 have oE:∀ b,(a.eval x).ownBlock=some b->dU (a.eval x)=some b:=fun b hb=>by
  cases I0:a.eval x <;> rw[I0] at hb <;> simp[Value.ownBlock] at hb
  rename_i a0 _ _
  cases a0 <;> simp_all [Value.ownBlock,dU]
 have z7:cH.oneCell' = true:=by rcases kr.2 with⟨rfl,_⟩ | ⟨_,_,_,rfl,_⟩ <;> rfl
 refine l5 (u:=cH) (aF:=aF) ?_ ?_
 ·unfold execOp;rw[ae];simp only[resolve,invoke,builtin,Sem.run_bind,Sem.run_pure,Result.andThen_ok,List.map_toArray,iM,sZ,hu,hr]
 ·rw[hd];obtain ⟨aL,aS,bi⟩:=hH.step (bl:=jZ ρ k cH) (cB:=(k,some (.row e s (l++m))) :: (id,none) :: st.heap) (next':=st.next) k (a.eval x).ownBlock av
   (fun mZ ag=>by
    have eS:=oE mZ ag
    exact⟨(hH.owned hh rfl lN eS).1,fun lk=>lk.2 id _ _ hh rfl lN eS⟩) kG
   (fun id x h=>by
    by_cases e:id=k
    ·rw[e,gO] at h;injection h with h;subst h;exact⟨by omega,z7⟩
    ·rw[jd _ _ e] at h;have:=hH.sup _ _ h;exact⟨by omega,this.2⟩)
   (fun j B ct an=>by
    rw[cl,ah (Ne.symm ct),cl] at an;split at an
    ·cases an
    ·rename_i jV;refine ⟨an,?_⟩;obtain ⟨u,hu⟩:=hH.nd an
     exact⟨u,hu,fun ae b hb e=>jV (hH.inj id j _ B _ u b hh an rfl ae lN hu (oE b e) hb)⟩)
   (fun B u b an ur hu hb=>by
    rw[gO] at hu;injection hu with hu;subst hu;rcases hB with hB|hB
    ·rw[hB] at hb;refine .inr ⟨fun lk=>lk.2 id _ _ hh rfl lN hb,fun j bd dD ct b0 dK c2 cG=>?_⟩;rw[cl,ah (Ne.symm ct),cl] at b0;split at b0
     ·cases b0
     ·rename_i jV;rw[jd _ _ ct] at c2;exact jV (hH.inj id j _ bd _ dD b hh b0 rfl dK lN c2 hb cG)
    ·exact .inl (hB b hb))
   (fun B an hS dc=>by
    rw[cl,al rfl] at an;injection an with an;subst an;refine ⟨ai,cH,xs++news,gO _ _ _,⟨(by rw[eE];exact kr),fun b hb=>hB.elim (fun hB=>DX b (by rw[<- hB];exact hb)) (fun hB=>hH.fl b (hB b hb))⟩,fun k ag=>?_,fun k j ag ad=>?_⟩
    ·rw[mf];split
     ·rename_i ca;exact az k ca
     ·rename_i ca;rw[eE] at ag;exact hm _ (by omega)
    ·rw[mf];have xr:xs.length=l.length * s:=aa.1;split
     ·rename_i ca;obtain ⟨u,g1,g2,g3⟩:=bk k j ca ad;have I1:k * s+j<l.length * s:=by
       have dG:(k+1) * s<=l.length * s:=kk s ca;have h9:(k+1) * s=k * s+s:=nG k s;omega
      exact⟨u,by rw[sh (by omega)];exact g1,g2.mono dc hS,g3⟩
     ·rename_i ca;rw[eE] at ag;obtain ⟨u,g1,g2⟩:=hrel (k - l.length) j (by omega) ad;have dG:(k - l.length) * s=k * s - l.length * s:=Nat.sub_mul k l.length s;have h9:l.length * s<=k * s:=kk s (by omega);refine ⟨u,?_,g2.mono dc hS,?_⟩
      ·rw[sg (by omega),xr,show k * s+j - l.length * s=(k - l.length) * s+j by omega];exact g1
      ·exact g2.one)
  exact⟨jZ ρ k cH,aL,(ax.mono aS bi kG).put (bM aN) (.own (gO _ _ _)),kG,fun j ad=>jd _ _ ad⟩
theorem W7 {t:Nat} {m:List (List V)} (ae:o.op = .call { callee:=.builtin .append,args:=#[x,y],argTypes:=#[t,t] }) (hd:o.dst=some d) (aN:Nat.blt d st.af=true) (hn0:Nat.ble n0 st.next=true) (U:aJ st.env x=some (.own id)) (hh:aM st.heap id=some (.row e s l)) (aj:aJ st.env y=some v) (ak:ij st.heap v=some m) (ht:P.underlying t=some (.slice e)) (aw:dr P e=some s) (hb:jw P e=some by_) (aU:∃ z,gZ P e=some z/\z.length=s) (hm:∀ i,i<m.length->(bb m i).length=s) (fp:(l.length+m.length) * by_<=140737488355328) (h63:l.length+m.length<=9223372036854775807) :
  GStep P n0 o st { env:=(d,.own st.next) :: st.env,heap:=(st.next,some (.row e s (l++m))) :: (id,none) :: st.heap,next:=st.next+1,af:=st.af }:=
 qj (bM hn0) (IZ (st:={ st with next:=st.next+1 }) ae hd aN U hh aj ak ht aw hb aU hm fp h63)
theorem iR {t n:Nat} {st:aW} (e s:Nat) (ai:Nat.blt 0 s=true) (hn0:Nat.ble n0 st.next=true) (ht:cW st.env t=some aX) :
  cg P n0 st { env:=(t,.own st.next) :: st.env,heap:=(st.next,some (.row e s [])) :: st.heap,next:=st.next+1,af:=st.af }:=fun F base w0 ρ a w hH ax=>by
 have ak:=fO (ax.slot t _ ht);have fY:ρ st.next=none:=by
  cases h:ρ st.next with
  | none=>rfl
  | some x=>exact absurd (hH.sup _ _ h).1 (Nat.lt_irrefl _)
 have kG:∀ id x,ρ id=some x->jZ ρ st.next (.slice none 0 0) id=some x:=fun id x h=>by rw[jd _ _ (fun e=>by rw[e,fY] at h;cases h)];exact h
 obtain ⟨aL,aS,bi⟩:=hH.step (bl:=jZ ρ st.next (.slice none 0 0)) (cB:=(st.next,some (.row e s [])) :: st.heap) (next':=st.next+1) (aF:=w) st.next none
  ⟨rfl,rfl,rfl,e4 _,fun _ _ _=>rfl⟩ (fun k ag=>by cases ag) kG
  (fun id x h=>by
   by_cases e:id=st.next
   ·rw[e,gO] at h;injection h with h;subst h;exact⟨by omega,rfl⟩
   ·rw[jd _ _ e] at h;have:=hH.sup _ _ h;exact⟨by omega,this.2⟩)
  (fun j B ct an=>by
   rw[cl,ah (Ne.symm ct)] at an;obtain ⟨u,hu⟩:=hH.nd an
   exact⟨an,u,hu,fun _ _ _ e=>by cases e⟩)
  (fun B u b an ur hu hb=>by
   rw[gO] at hu;injection hu with hu;subst hu
   simp[dU] at hb)
  (fun B an hS dc=>by
   rw[cl,al rfl] at an;injection an with an;subst an
   exact⟨bM ai,_,[],gO _ _ _,⟨World.ownsRow_nil w 0 e s,fun b hb=>by cases hb⟩,fun i hi=>by simp at hi,fun i j hi=>by simp at hi⟩)
 refine ⟨_,aL,?_,fun j ad=>jd _ _ (by have:=bM hn0;omega)⟩;have aa:=ax.mono aS bi kG;refine ⟨aa.size,aa.defers,fun x v U=>?_⟩;simp only[cW] at U
 cases hb:Nat.beq t x with
 | true=>
  rw[hb] at U;simp only[cond_true,ck] at U;subst U;have:=iF hb;subst this;exact .own (by rw[ak];exact gO _ _ _)
 | false=>
  rw[hb] at U;exact aa.slot x v U
theorem oB {st:aW} (hh:aM st.heap id=some (.row e s l)):cg P n0 st { st with heap:=(id,some (.dY l)) :: st.heap }:=fun F base w0 ρ a w hH ax=>by
 obtain ⟨ai,r,xs,J,⟨aa,DX⟩,az,bk⟩:=hH.cJ _ _ hh
 have hS:∀ b,bs F ρ st.heap b->bs F ρ ((id,some (.dY l)) :: st.heap) b:=fun b h=>⟨h.1,fun j B u an ae hu=>by
  rw[cl] at an;split at an
  ·injection an with an;subst an;cases ae
  ·exact h.2 j B u an ae hu⟩
 have Hv:∀ b,dU r=some b->bs F ρ ((id,some (.dY l)) :: st.heap) b:=fun b hb=>by
  have oE:=hH.owned hh rfl J hb;refine ⟨hH.dX b oE.1,fun j B u an ae hu Hw=>?_⟩;rw[cl] at an;split at an
  ·injection an with an;subst an;cases ae
  ·rename_i jV;exact jV (hH.inj id j _ B r u b hh an rfl ae J hu hb Hw)
 refine ⟨ρ,⟨⟨hH.below,hH.fl,hH.sup,fun i j B bd u dD b an b0 ae dK hu c2 hb cG=>?_,fun j B an=>?_⟩,hH.dX⟩,ax.mono (dl.refl _ _) (fun b h _=>hS b h) (fun _ _ h=>h),fun _ _=>rfl⟩
 ·rw[cl] at an b0;split at an
  ·injection an with an;subst an;cases ae
  ·split at b0
   ·injection b0 with b0;subst b0;cases dK
   ·exact hH.inj i j B bd u dD b an b0 ae dK hu c2 hb cG
 ·rw[cl] at an;split at an
  ·rename_i e;subst e;injection an with an;subst an;refine ⟨r,J,DV ai aa az bk (fun b h _=>hS b h) Hv,fun a n c hr=>?_⟩;rcases aa.2 with⟨rfl,_⟩ | ⟨g,cap,cQ,rfl,_⟩
   ·cases hr
   ·injection hr with hr;injection hr with hr;rw[<- hr]
  ·exact(hH.cJ j B an).mono (dl.refl _ _) (fun b h _=>hS b h) (fun _ _ h=>h) (fun _ _ _ _ _ _=>rfl)
end
end
section
open Go.RowKit
section
variable {P:Program} {n0:Nat} {ops:List Oper} {o:Oper} {rest:List Oper} {st:aW} {Q:aW->Prop}
def I2 (op:BinOp) (u v:Value):Option Value:=
 match u,v with
 | .int k m,.int bn n=>bif decide (k=bn) then(match op with
   | .add=>some (.int k (k.wrap (m+n)))
   | .sub=>some (.int k (k.wrap (m - n)))
   | .mul=>some (.int k (k.wrap (m * n)))
   | .and=>some (.int k (lo .and k m n))
   | .or=>some (.int k (lo .or k m n))
   | .xor=>some (.int k (lo .xor k m n))
   | .andNot=>some (.int k (lo .andNot k m n))
   | _=>none) else none
 | _,_=>none
theorem W8 {v r:Value} {G:List Nat} (ae:o.op = .binOp op T x y cX) (U:aJ st.env x=some (.lit u)) (aj:aJ st.env y=some (.lit v)) (h:I2 op u v=some r):bu P G o st (.lit r):=by
 unfold I2 at h;split at h
 ·rename_i k m bn n
  cases ag:decide (k=bn) with
  | false=>rw[ag] at h;cases h
  | true=>
   rw[ag] at h;have ag:=of_decide_eq_true ag;subst ag;simp only[cond_true] at h;split at h
   ·injection h with h;subst h;exact OF ae U aj
   ·injection h with h;subst h;exact OG ae U aj
   ·injection h with h;subst h;exact OH ae U aj
   ·injection h with h;subst h;exact Wp ae U aj
   ·injection h with h;subst h;exact Wq ae U aj
   ·injection h with h;subst h;exact Wr ae U aj
   ·injection h with h;subst h;exact Ws ae U aj
   ·cases h
 ·cases h
def I3 (op:UnOp) (u:Value):Option Value:=
 match op,u with
 | .not,.bool b=>some (.bool (bif b then false else true))
 | .neg,.int k n=>some (.int k (k.wrap (0 - n)))
 | .xor,.int k n=>some (.int k (lo .xor k (if k.signed then -1 else k.max) n))
 | _,_=>none
theorem W9 {op:UnOp} {r:Value} {G:List Nat} (ae:o.op = .unOp op T x) (U:aJ st.env x=some (.lit u)) (h:I3 op u=some r):bu P G o st (.lit r):=by
 unfold I3 at h;split at h
 ·injection h with h;subst h;rename_i b;have:=Wu (P:=P) (G:=G) ae U
  cases b <;> exact this
 ·injection h with h;subst h;exact Wv ae U
 ·injection h with h;subst h;exact Ww ae U
 ·cases h
def z8 (P:Program) (G:List Nat) (st:aW) (T:TypeId) (p:V):Option V:=
 match p with
 | .fk cs=>match lp P T with
  | some true=>match dr P T with
   | some n=>bif Nat.ble n cs.length then some (.agg (cs.take n)) else none
   | none=>none
  | some false=>cs[0]?
  | none=>none
 | .ptr id 0 _ j=>match aM st.heap id with
  | some (.box _ cs)=>bif qB id G then(match lp P T with
   | some true=>match dr P T with
    | some n=>bif Nat.ble n (cs.drop j).length then some (.agg ((cs.drop j).take n)) else none
    | none=>none
   | some false=>(cs.drop j)[0]?
   | none=>none) else none
  | _=>none
 | _=>none
theorem Xa {p:V} {G:List Nat} (ae:o.op = .load T x) (U:aJ st.env x=some p) (h:z8 P G st T p=some v):bu P G o st v:=by
 have key:∀ cs:List V,Reads G st p cs->(match lp P T with
  | some true=>match dr P T with
   | some n=>bif Nat.ble n cs.length then some (V.agg (cs.take n)) else none
   | none=>none
  | some false=>cs[0]?
  | none=>none)=some v->bu P G o st v:=by
  intro cs hr h
  cases aY:lp P T with
  | none=>rw[aY] at h;cases h
  | some b=>
   rw[aY] at h
   cases b with
   | false=>exact ei ae U aY hr h
   | true=>
    cases hn:dr P T with
    | none=>simp only[hn] at h;cases h
    | some n=>
     simp only[hn] at h
     cases hb:Nat.ble n cs.length with
     | false=>rw[hb] at h;cases h
     | true=>
      rw[hb] at h;injection h with h;subst h;exact ep ae U aY hn hr (bM hb)
 cases p with
 | fk cs=>exact key cs WK h
 | ptr id i s j=>
  cases i with
  | succ=>cases h
  | zero=>
   cases hh:aM st.heap id with
   | none=>simp only[z8,hh] at h;cases h
   | some B=>
    cases B with
    | box t cs=>
     simp only[z8,hh] at h
     cases fS:qB id G with
     | false=>rw[fS] at h;cases h
     | true=>
      rw[fS] at h;exact key (cs.drop j) (OS hh fS) h
    | _=>simp only[z8,hh] at h;cases h
 | _=>cases h
def Aa (P:Program) (st:aW) (t:TypeId) (x:V):Option V:=
 match P.underlying t with
 | some (.slice _)=>match x with
  | .ro l=>some (I l.length)
  | .lit (.slice _ n _)=>some (I n)
  | .own id=>match aM st.heap id with
   | some (.row _ _ l)=>some (I l.length)
   | some (.dY l)=>some (I l.length)
   | _=>none
  | _=>none
 | some .string=>match x with
  | .lit (.string s)=>some (I s.size)
  | _=>none
 | some (.array n _)=>some (I n)
 | _=>none
theorem I4 {p:V} {G:List Nat} (ae:o.op = .call { callee:=.builtin .len,args:=#[x],argTypes:=#[t] }) (U:aJ st.env x=some p) (h:Aa P st t p=some v):bu P G o st v:=by
 unfold Aa at h;split at h
 ·rename_i e ht;split at h
  ·injection h with h;subst h;exact Wz ae U ht
  ·injection h with h;subst h;exact WA ae U ht
  ·split at h
   ·rename_i hh;injection h with h;subst h;exact Mj ae U hh ht
   ·rename_i hh;injection h with h;subst h;exact WB ae U hh ht
   ·cases h
  ·cases h
 ·rename_i ht;split at h
  ·injection h with h;subst h;exact Iv ae U ht
  ·cases h
 ·rename_i ht;injection h with h;subst h;exact WC ae ht
 ·cases h
def vz (P:Program) (G:List Nat) (st:aW):Op->Option V
 | .move x=>aJ st.env x
 | .assign x=>aJ st.env x
 | .pick c x y=>match aJ st.env c with
  | some (.lit (.bool b))=>bif b then aJ st.env x else aJ st.env y
  | _=>none
 | .binOp op _ x y _=>match aJ st.env x with
  | some (.lit u)=>match aJ st.env y with
   | some (.lit v)=>match I2 op u v with
    | some r=>some (.lit r)
    | none=>none
   | _=>none
  | _=>none
 | .unOp op _ x=>match aJ st.env x with
  | some (.lit u)=>match I3 op u with
   | some r=>some (.lit r)
   | none=>none
  | _=>none
 | .load T x=>match aJ st.env x with
  | some p=>z8 P G st T p
  | none=>none
 | .fieldAddr T x f=>match zK P T f with
  | some n=>match aJ st.env x with
   | some (.ptr id i s j)=>some (.ptr id i s (j+n))
   | some (.fk cs)=>some (.fk (cs.drop n))
   | _=>none
  | none=>none
 | .extract x i=>match aJ st.env x with
  | some (.bN vs)=>vs[i]?
  | _=>none
 | .convert T bT x=>match P.underlying T with
  | some d=>match P.underlying bT with
   | some (.int bn)=>match aJ st.env x with
    | some (.lit (.int _ n))=>some (.lit (.int bn (bn.wrap n)))
    | _=>none
   | some .string=>match d with
    | .string=>match aJ st.env x with
     | some (.lit (.string s))=>some (.lit (.string s))
     | _=>none
    | _=>none
   | _=>none
  | none=>none
 | .build T parts=>match gZ P T with
  | some z=>match IS P T with
   | some pl=>match mo st.env parts.toList with
    | some c5=>match pT pl z c5 with
     | some cs=>some (.agg cs)
     | none=>none
    | none=>none
   | none=>none
  | none=>none
 | .call { callee:=.builtin .len,args:=⟨[x]⟩,argTypes:=⟨[t]⟩ }=>match aJ st.env x with
  | some p=>Aa P st t p
  | none=>none
 | .call { callee:=.builtin .max,args:=⟨[x,y]⟩,argTypes:=_ }=>match aJ st.env x with
  | some (.lit (.int k m))=>match aJ st.env y with
   | some (.lit (.int bn n))=>bif decide (k=bn) then some (.lit (.int k (max m n))) else none
   | _=>none
  | _=>none
 | .call { callee:=.builtin .min,args:=⟨[x,y]⟩,argTypes:=_ }=>match aJ st.env x with
  | some (.lit (.int k m))=>match aJ st.env y with
   | some (.lit (.int bn n))=>bif decide (k=bn) then some (.lit (.int k (min m n))) else none
   | _=>none
  | _=>none
 | _=>none
theorem I5 {G:List Nat} (h:vz P G st o.op=some v):bu P G o st v:=by
 generalize fb:o.op=op at h;unfold vz at h;split at h
 ·exact Wd fb h
 ·exact We fb h
 ·split at h
  ·rename_i b hc
   cases b
   ·exact Wh fb hc h
   ·exact Wg fb hc h
  ·cases h
 ·split at h
  ·rename_i U;split at h
   ·rename_i aj;split at h
    ·rename_i hr;injection h with h;subst h;exact W8 fb U aj hr
    ·cases h
   ·cases h
  ·cases h
 ·split at h
  ·rename_i U;split at h
   ·rename_i hr;injection h with h;subst h;exact W9 fb U hr
   ·cases h
  ·cases h
 ·split at h
  ·rename_i U;exact Xa fb U h
  ·cases h
 ·split at h
  ·rename_i hn;split at h
   ·rename_i U;injection h with h;subst h;exact WH fb U hn
   ·rename_i U;injection h with h;subst h;exact WI fb U hn
   ·cases h
  ·cases h
 ·split at h
  ·rename_i U;exact Wy fb U h
  ·cases h
 ·split at h
  ·rename_i d aY;split at h
   ·rename_i ja;split at h
    ·rename_i U;injection h with h;subst h;exact OL fb U aY ja
    ·cases h
   ·rename_i ja;split at h
    ·split at h
     ·rename_i U;injection h with h;subst h;exact Wx fb U aY ja
     ·cases h
    ·cases h
   ·cases h
  ·cases h
 ·split at h
  ·rename_i aU;split at h
   ·rename_i hI;split at h
    ·rename_i ar;split at h
     ·rename_i hf;injection h with h;subst h;exact W2 fb aU hI ar hf
     ·cases h
    ·cases h
   ·cases h
  ·cases h
 ·split at h
  ·rename_i U;exact I4 fb U h
  ·cases h
 ·split at h
  ·rename_i k m U;split at h
   ·rename_i bn n aj
    cases ag:decide (k=bn) with
    | false=>rw[ag] at h;cases h
    | true=>
     rw[ag] at h;have ag:=of_decide_eq_true ag;subst ag;injection h with h;subst h;exact yl fb U aj
   ·cases h
  ·cases h
 ·split at h
  ·rename_i k m U;split at h
   ·rename_i bn n aj
    cases ag:decide (k=bn) with
    | false=>rw[ag] at h;cases h
    | true=>
     rw[ag] at h;have ag:=of_decide_eq_true ag;subst ag;injection h with h;subst h;exact WD fb U aj
   ·cases h
  ·cases h
 ·cases h
def DY (env:List (Nat×V)):Op->Option Prop
 | .binOp op _ x y _=>match aJ env x with
  | some (.lit (.int k m))=>match aJ env y with
   | some (.lit (.int bn n))=>bif decide (k=bn) then(match op with
    | .lss=>some (m<n)
    | .leq=>some (m<=n)
    | .gtr=>some (n<m)
    | .geq=>some (n<=m)
    | .eql=>some (m=n)
    | .neq=>some (¬ m=n)
    | _=>none) else none
   | _=>none
  | _=>none
 | _=>none
theorem DZ {G:List Nat} (h:DY st.env o.op=some p):(p->bu P G o st (ab true))/\(¬ p->bu P G o st (ab false)):=by
 have key:∀ (p:Prop) [Decidable p],bu P G o st (ab (decide p))->(p->bu P G o st (ab true))/\(¬ p->bu P G o st (ab false)):=fun p _ h=>⟨fun ar=>by rw[decide_eq_true ar] at h;exact h,fun ar=>by rw[decide_eq_false ar] at h;exact h⟩
 generalize fb:o.op=op at h;unfold DY at h;split at h
 ·split at h
  ·rename_i k m U;split at h
   ·rename_i bn n aj
    cases ag:decide (k=bn) with
    | false=>rw[ag] at h;cases h
    | true=>
     rw[ag] at h;have ag:=of_decide_eq_true ag;subst ag;simp only[cond_true] at h;split at h
     ·injection h with h;subst h;exact key _ (Wi fb U aj)
     ·injection h with h;subst h;exact key _ (Wj fb U aj)
     ·injection h with h;subst h;exact key _ (Wk fb U aj)
     ·injection h with h;subst h;exact key _ (Wl fb U aj)
     ·injection h with h;subst h;exact key _ (Wn fb U aj)
     ·injection h with h;subst h;exact key _ (Wo fb U aj)
     ·cases h
   ·cases h
  ·cases h
 ·cases h
def D0 (env:List (Nat×V)) (P:Program):Op->Option (IntKind×Int)
 | .binOp op _ x y _=>match aJ env x with
  | some (.lit (.int k m))=>match aJ env y with
   | some (.lit (.int bn n))=>bif decide (k=bn) then(match op with
    | .add=>some (k,m+n)
    | .sub=>some (k,m - n)
    | .mul=>some (k,m * n)
    | _=>none) else none
   | _=>none
  | _=>none
 | .convert T bT x=>match P.underlying bT with
  | some (.int bn)=>match P.underlying T with
   | some _=>match aJ env x with
    | some (.lit (.int _ n))=>some (bn,n)
    | _=>none
   | none=>none
  | _=>none
 | _=>none
theorem Pl {k:IntKind} {r:Int} {G:List Nat} (h:D0 st.env P o.op=some (k,r)):bu P G o st (.lit (.int k (k.wrap r))):=by
 generalize fb:o.op=op at h;unfold D0 at h;split at h
 ·split at h
  ·rename_i k m U;split at h
   ·rename_i bn n aj
    cases ag:decide (k=bn) with
    | false=>rw[ag] at h;cases h
    | true=>
     rw[ag] at h;have ag:=of_decide_eq_true ag;subst ag;simp only[cond_true] at h;split at h
     ·injection h with h;injection h with J aa;subst J;subst aa;exact OF fb U aj
     ·injection h with h;injection h with J aa;subst J;subst aa;exact OG fb U aj
     ·injection h with h;injection h with J aa;subst J;subst aa;exact OH fb U aj
     ·cases h
   ·cases h
  ·cases h
 ·split at h
  ·rename_i ja;split at h
   ·rename_i aY;split at h
    ·rename_i U;injection h with h;injection h with J aa;subst J;subst aa;exact OL fb U aY ja
    ·cases h
   ·cases h
  ·cases h
 ·cases h
def I6 (heap:List (Nat×Option aT)):V->Option (List (List V))
 | .ro l=>some l
 | .own id=>match aM heap id with
  | some (.row _ _ l)=>some l
  | some (.dY l)=>some l
  | _=>none
 | _=>none
inductive Norm:List V->List V->Prop
 | nil:Norm [] []
 | cons {c:V} {cs ds:List V} (h:Norm cs ds):Norm (c :: cs) (c :: ds)
theorem Norm.eq (h:Norm cs ds):cs=ds:=by
 induction h with
 | nil=>rfl
 | cons h bU=>rw[bU]
inductive iG:V->V->Prop
 | agg {cs ds:List V} (h:Norm cs ds):iG (.agg cs) (.agg ds)
 | fk {cs ds:List V} (h:Norm cs ds):iG (.fk cs) (.fk ds)
 | same {v:V}:iG v v
theorem iG.eq {u:V} (h:iG v u):v=u:=by
 cases h with
 | agg h=>rw[h.eq]
 | fk h=>rw[h.eq]
 | same=>rfl
end
section
variable {P:Program} {n0:Nat} {ops:List Oper} {o:Oper} {rest:List Oper} {env:List (Nat×V)} {heap:List (Nat×Option aT)} {next af:Nat} {Q:aW->Prop}
theorem ir (av:b1 env ops o.guard=some true) (hd:o.dst=some d) (aN:Nat.blt d af=true) (hq:bu P [] o ⟨env,heap,next,af⟩ v) (h:a6 P n0 ops.toArray rest ⟨(d,v) :: env,heap,next,af⟩ Q):a6 P n0 ops.toArray (o :: rest) ⟨env,heap,next,af⟩ Q:=
 WS (v:=v) av o7 hq (by rw[hd];exact h)
theorem Ab (av:b1 env ops o.guard=some false:=by rfl) (hd:o.dst=some d:=by rfl) (aN:Nat.blt d af=true:=by rfl) (h:a6 P n0 ops.toArray rest ⟨(d,.gN) :: env,heap,next,af⟩ Q):a6 P n0 ops.toArray (o :: rest) ⟨env,heap,next,af⟩ Q:=
 O1 av o7 (by rw[hd];exact h)
theorem Ac {v u:V} (hq:vz P [] ⟨env,heap,next,af⟩ o.op=some v:=by rfl) (av:b1 env ops o.guard=some true:=by rfl) (hv:iG v u:=by first|(apply iG.agg;repeat' first|exact Norm.nil|apply Norm.cons)|(apply iG.fk;repeat' first|exact Norm.nil|apply Norm.cons)|exact iG.same) (hd:o.dst=some d:=by rfl) (aN:Nat.blt d af=true:=by rfl) (h:a6 P n0 ops.toArray rest ⟨(d,u) :: env,heap,next,af⟩ Q):a6 P n0 ops.toArray (o :: rest) ⟨env,heap,next,af⟩ Q:=
 ir av hd aN (by rw[<- hv.eq];exact I5 hq) h
theorem Ad {e:TypeId} (ae:o.op = .call { callee:=.builtin .len,args:=#[x],argTypes:=#[t] }:=by rfl) (U:aJ env x=some v:=by rfl) (ao:I6 heap v=some l:=by rfl) (ht:P.underlying t=some (.slice e):=by rfl) (hn:l.length=n:=by first|exact bY _|(simp only[bY,eE,eb,fg,e1];rfl)|rfl) (av:b1 env ops o.guard=some true:=by rfl) (hd:o.dst=some d:=by rfl) (aN:Nat.blt d af=true:=by rfl) (h:a6 P n0 ops.toArray rest ⟨(d,I n) :: env,heap,next,af⟩ Q):a6 P n0 ops.toArray (o :: rest) ⟨env,heap,next,af⟩ Q:=by
 subst hn;refine ir av hd aN (I4 (P:=P) ae U ?_) h;unfold Aa;rw[ht]
 cases v with
 | ro dW=>simp only[I6,ck] at ao;subst ao;rfl
 | own id=>
  simp only[I6] at ao;split at ao
  ·rename_i hh;injection ao with ao;subst ao;simp only[hh]
  ·rename_i hh;injection ao with ao;subst ao;simp only[hh]
  ·cases ao
 | _=>cases ao
theorem Ae:(0:Int)=((0:Nat):Int):=rfl
theorem Af:(1:Int)=((1:Nat):Int):=rfl
theorem Ag:(2:Int)=((2:Nat):Int):=rfl
theorem I7 {k:Nat} (h:0<k):(k:Int) - 1=((k - 1:Nat):Int):=by omega
theorem I8 {k:Nat} (h:j<=k):(k:Int) - (j:Int)=((k - j:Nat):Int):=by omega
theorem Ah:(3:Int)=((3:Nat):Int):=rfl
theorem cb {v u:V} (av:b1 env ops o.guard=some true:=by rfl) (hd:o.dst=some d:=by rfl) (aN:Nat.blt d af=true:=by rfl) (hq:bu P [] o ⟨env,heap,next,af⟩ v:=by
   first
    | exact vm rfl rfl rfl D1 xF rfl rfl rfl (gV _ (by omega))
    | exact Ci rfl rfl rfl rfl D1 Pm rfl rfl
    | exact ei rfl rfl rfl (pw rfl xF rfl (gV _ (by omega))) rfl
    | exact ep rfl rfl rfl rfl (pw rfl xF rfl (gV _ (by omega))) (bM rfl)
    | exact Ir rfl rfl rfl (by omega)
    | exact Is rfl rfl rfl (by omega)
    | exact DF rfl rfl rfl (by omega)
    | exact DG rfl rfl rfl (by omega)
    | exact CA rfl rfl rfl rfl (by omega) rfl
    | exact OO rfl rfl rfl rfl rfl (by omega) rfl
    | exact DH rfl rfl rfl (by omega)) (hv:iG v u:=by first|(apply iG.agg;repeat' first|exact Norm.nil|apply Norm.cons)|(apply iG.fk;repeat' first|exact Norm.nil|apply Norm.cons)|exact iG.same) (h:a6 P n0 ops.toArray rest ⟨(d,u) :: env,heap,next,af⟩ Q):a6 P n0 ops.toArray (o :: rest) ⟨env,heap,next,af⟩ Q:=ir av hd aN (by rw[<- hv.eq];exact hq) h
theorem Ai (hq:DY env o.op=some p:=by rfl) (av:b1 env ops o.guard=some true:=by rfl) (hd:o.dst=some d:=by rfl) (aN:Nat.blt d af=true:=by rfl) (ht:p->a6 P n0 ops.toArray rest ⟨(d,ab true) :: env,heap,next,af⟩ Q) (hf:¬ p->a6 P n0 ops.toArray rest ⟨(d,ab false) :: env,heap,next,af⟩ Q):a6 P n0 ops.toArray (o :: rest) ⟨env,heap,next,af⟩ Q:=by
 by_cases ar:p
 ·exact ir av hd aN ((DZ (st:=⟨env,heap,next,af⟩) hq).1 ar) (ht ar)
 ·exact ir av hd aN ((DZ (st:=⟨env,heap,next,af⟩) hq).2 ar) (hf ar)
theorem Aj {k:IntKind} {r:Int} (hq:D0 env P o.op=some (k,r):=by rfl) (av:b1 env ops o.guard=some true:=by rfl) (hr:k.wrap r=r:=by first|(rw[IntKind.wrap_i64];omega)|(rw[IntKind.wrap_u64];omega)|(rw[IntKind.wrap_u8];omega)) (hd:o.dst=some d:=by rfl) (aN:Nat.blt d af=true:=by rfl) (h:a6 P n0 ops.toArray rest ⟨(d,.lit (.int k r)) :: env,heap,next,af⟩ Q):a6 P n0 ops.toArray (o :: rest) ⟨env,heap,next,af⟩ Q:=
 ir av hd aN (by have:=Pl (st:=⟨env,heap,next,af⟩) (P:=P) (G:=[]) hq;rw[hr] at this;exact this) h
theorem Ak {cs:List V} (ae:o.op = .alloc T:=by rfl) (av:b1 env ops o.guard=some true:=by rfl) (hd:o.dst=some d:=by rfl) (aN:Nat.blt d af=true:=by rfl) (hn0:Nat.ble n0 next=true:=by rfl) (aU:gZ P T=some cs:=by rfl) (hv:Norm cs ds:=by repeat' first|exact Norm.nil|apply Norm.cons) (h:a6 P n0 ops.toArray rest ⟨(d,.ptr next 0 0 0) :: env,(next,some (.box T ds)) :: heap,next+1,af⟩ Q):a6 P n0 ops.toArray (o :: rest) ⟨env,heap,next,af⟩ Q:=by
 have e:=hv.eq;subst e;exact kn av (WM (st:=⟨env,heap,next,af⟩) ae hd aN hn0 aU) h
theorem Al {cs:List V} (ae:o.op = .box T x:=by rfl) (av:b1 env ops o.guard=some true:=by rfl) (hd:o.dst=some d:=by rfl) (aN:Nat.blt d af=true:=by rfl) (hn0:Nat.ble n0 next=true:=by rfl) (U:aJ env x=some v:=by rfl) (hf:flat v=some cs:=by rfl) (hv:Norm cs ds:=by repeat' first|exact Norm.nil|apply Norm.cons) (h:a6 P n0 ops.toArray rest ⟨(d,.ptr next 0 0 0) :: env,(next,some (.box T ds)) :: heap,next+1,af⟩ Q):a6 P n0 ops.toArray (o :: rest) ⟨env,heap,next,af⟩ Q:=by
 have e:=hv.eq;subst e;exact kn av (WN (st:=⟨env,heap,next,af⟩) ae hd aN hn0 U hf) h
theorem Am {t:Nat} (ae:o.op = .store T x y:=by rfl) (av:b1 env ops o.guard=some true:=by rfl) (hd:o.dst=none:=by rfl) (U:aJ env x=some (.ptr id 0 s j):=by rfl) (hh:aM heap id=some (.box t cs):=by rfl) (aj:aJ env y=some v:=by rfl) (hf:flat v=some vs:=by rfl) (aY:dr P T=some vs.length:=by rfl) (ao:Nat.ble (j+vs.length) cs.length=true:=by rfl) (hv:Norm (setAt j vs cs) ds:=by repeat' first|exact Norm.nil|apply Norm.cons) (h:a6 P n0 ops.toArray rest ⟨env,(id,some (.box t ds)) :: heap,next,af⟩ Q):a6 P n0 ops.toArray (o :: rest) ⟨env,heap,next,af⟩ Q:=by
 have e:=hv.eq;subst e;exact kn av (OZ (st:=⟨env,heap,next,af⟩) ae hd U hh aj hf aY ao) h
theorem I9 {vs:List V} (hf:Fn P f cP r) (ae:o.op = .call { callee:=.value (.func f),args:=xs,argTypes:=ts }:=by rfl) (av:b1 env ops o.guard=some true:=by rfl) (hd:o.dst=some d:=by rfl) (aN:Nat.blt d af=true:=by rfl) (U : h3 env xs.toList = some vs := by rfl) (hb : lM.l9 0 vs = true := by rfl) (hw : ez vs cP := by ((repeat' (first | exact ez.nil | refine ez.cons ?_ ?_ | exact dt.refl _ | exact dt.nil | refine dt.agg ?_ | refine dt.bN ?_)); first | done | fail "args")) (h : a6 P n0 ops.toArray rest ⟨(d, r) :: env, heap, next, af⟩ Q) : a6 P n0 ops.toArray (o :: rest) ⟨env, heap, next, af⟩ Q :=
 kn av (Pb (st:=⟨env,heap,next,af⟩) ae o7 U hb (Pd hf hw)) (by rw[hd];exact h)
theorem Pn {vs:List V} {b:Bool} (hf:Fn P f cP (ab b)) (ae:o.op = .call { callee:=.value (.func f),args:=xs,argTypes:=ts }:=by rfl) (av:b1 env ops o.guard=some true:=by rfl) (hd:o.dst=some d:=by rfl) (aN:Nat.blt d af=true:=by rfl) (U : h3 env xs.toList = some vs := by rfl) (hb : lM.l9 0 vs = true := by rfl) (hw : ez vs cP := by ((repeat' (first | exact ez.nil | refine ez.cons ?_ ?_ | exact dt.refl _ | exact dt.nil | refine dt.agg ?_ | refine dt.bN ?_)); first | done | fail "args")) (ht : b = true -> a6 P n0 ops.toArray rest ⟨(d, ab true) :: env, heap, next, af⟩ Q) (hff : b = false -> a6 P n0 ops.toArray rest ⟨(d, ab false) :: env, heap, next, af⟩ Q) : a6 P n0 ops.toArray (o :: rest) ⟨env, heap, next, af⟩ Q := by
 cases b
 ·exact I9 hf ae av hd aN U hb hw (hff rfl)
 ·exact I9 hf ae av hd aN U hb hw (ht rfl)
end
section
variable {P:Program} {n0:Nat} {st bq:aW}
theorem Po {env:List (Nat×V)} {t:Nat} {k:IntKind} {n:Int} (h:cW env t=some (.lit (.int k m))) (hm:m=n):cW env t=some (.lit (.int k n)):=by rw[h,hm]
theorem dV (hc:DT st.env bq.env:=by repeat'(first|exact True.intro|exact rfl|exact Po rfl (by first|rfl|omega|(dsimp only;omega))|refine And.intro ?_ ?_)) (hh:uC st.heap bq.heap:=by repeat'(first|exact True.intro|exact rfl|refine And.intro ?_ ?_)) (hn:Nat.ble bq.next st.next=true:=by rfl) (hn0:Nat.ble n0 bq.next=true:=by rfl) (he:zU bq.next bq.env=true:=by rfl) (hb:zV bq.next bq.heap=true:=by rfl) (hnt:bq.af=st.af:=by rfl):cg P n0 st bq:=by
 have J:cg P n0 st { env:=bq.env,heap:=bq.heap,next:=st.next,af:=bq.af }:=WV rfl hnt hc hh;have aa:cg P n0 { env:=bq.env,heap:=bq.heap,next:=st.next,af:=bq.af } { env:=bq.env,heap:=bq.heap,next:=bq.next,af:=bq.af }:=WW bq.next hn0 hn he hb
 exact J.trans aa
theorem cv {Q:Exit->aW->Prop} (mY:X->aW) (vA:X->Prop) (sD:X->Nat) (eZ:X) (U:vA eZ) (ai:cg P n0 st (mY eZ)) (round:∀ x,vA x->cE P n0 c (mY x) (sC (fun bq=>∃ mU,sD mU < sD x/\vA mU /\ cg P n0 bq (mY mU)) Q)):cE P n0 (.loop c) st Q:=
 WT (X:={x:X // vA x}) (fun x=>mY x.1) (fun x=>sD x.1) ⟨eZ,U⟩ ai (fun x=>O2 (round x.1 x.2) (fun e bq hq=>by
  cases e with
  | normal=>obtain ⟨mU,J,aa,az⟩:=hq;exact⟨⟨mU,aa⟩,J,az⟩
  | _=>exact hq))
theorem je {Z:Type} {x y:Code} {Q:Exit->aW->Prop} (mY:Z->aW) (vA:Z->Prop) (h:cE P n0 x st (sC (fun bq=>∃ z,vA z/\cg P n0 bq (mY z)) Q)) (aa:∀ z,vA z->cE P n0 y (mY z) Q):cE P n0 (.seq x y) st Q:=by
 refine gW (O2 h (fun e bq hq=>?_))
 cases e with
 | normal=>
  obtain ⟨z,aU,ao⟩:=hq;exact gH ao (aa z aU)
 | _=>exact hq
theorem nX {next:aW->Prop} {Q:Exit->aW->Prop} (h:next st):sC next Q .normal st:=h
theorem D2 {next:aW->Prop} {Q:Exit->aW->Prop} (h:Q .ret st):sC next Q .ret st:=h
theorem D3 {next:aW->Prop} {Q:Exit->aW->Prop} (h:Q (.exit i) st):sC next Q (.exit i) st:=h
theorem D4 {Q:Exit->aW->Prop} (h:Q .normal st):tP id Q .normal st:=h
theorem D5 {Q:Exit->aW->Prop} (h:Q .ret st):tP id Q .ret st:=h
theorem D6 {Q:Exit->aW->Prop} (h:Q .normal st):tP id Q (.exit id) st:=by simp only[tP,Nat.beq_refl,cond_true];exact h
theorem D7 {Q:Exit->aW->Prop} (hn:Nat.beq i id=false) (h:Q (.exit i) st):tP id Q (.exit i) st:=by simp only[tP,hn,cond_false];exact h
theorem bX {e:Exit} (he:e = .ret\/e = .normal:=by first|exact .inl rfl|exact .inr rfl) (ak:r1 P st fn.results.toList=some v:=by rfl) (aw:ih st.heap v=some gm:=by rfl) (hr:gm = r):Ends P fn r e st:=⟨he,v,gm,ak,aw,by rw[hr];exact .refl _⟩
theorem GQ {e:Exit} (he:e = .ret\/e = .normal:=by first|exact .inl rfl|exact .inr rfl) (ak:r1 P st fn.results.toList=some v:=by rfl) (aw:ih st.heap v=some gm:=by rfl) (hr:dt gm r):Ends P fn r e st:=⟨he,v,gm,ak,aw,hr⟩
end
end
section
open Go.RowKit
def tU (ho:List Nat):List Edge->Nat
 | []=>0
 | e :: es=>bif Region.binds .any e then((2 ^ e.on) ||| ho.getD e.on 0) ||| tU ho es else tU ho es
def Pp (ho:List Nat):List Oper->List Nat
 | []=>ho
 | o :: os=>Pp (ho++[tU ho o.after.toList]) os
def nD (ops:List Oper):List Nat:=Pp [] ops
def looks (ops:List Oper) (o:Oper):List Nat:=
  (o.op.operands.toList.filterMap fun | .tmp t=>some t|_=>none) ++
  (match o.guard with
   | some (g,_)=>match ops[g]? with
     | some Xb=>match Xb.dst with
       | some d=>[d]
       | none=>[]
     | none=>[]
   | none=>[])
def An (ho:List Nat) (i t:Nat):Nat->List Oper->Bool
 | _,[]=>true
 | j,o :: os=>(match o.dst with|some d=>(bif Nat.beq d t then Nat.testBit (ho.getD i 0) j || Nat.testBit (ho.getD j 0) i else true)|none=>true) && An ho i t (j+1) os
def Xc:Op->Bool
 | .store ..=>true
 | .call { callee:=.builtin .append,.. }=>true
 | _=>false
def D8:Op->Bool
 | .store ..=>true
 | .call ..=>true
 | _=>false
def D9:List Oper->Bool
 | []=>true
 | o :: os=>(match o.dst with
  | some d=>os.all (fun fx=>match fx.dst with|some iD=>!Nat.beq iD d|none=>true)
  | none=>true) && D9 os
def Ea (ops:List Oper) (ho:List Nat):Nat->List Oper->Bool
 | _,[]=>true
 | i,o :: os=>Nat.beq (ho.getD i 0) (tU ho o.after.toList) && (o.after.toList.all (fun e=>!Region.binds .any e || Nat.blt e.on i) && ((looks ops o).all (fun t=>An ho i t 0 ops) && Ea ops ho (i+1) os))
def ms (ops:List Oper):Bool:=D9 ops && Ea ops (nD ops) 0 ops
def Eb (ho:List Nat) (i:Nat) (p:Nat->Bool):Nat->List Oper->Bool
 | _,[]=>true
 | j,o :: os=>(!p j || (Nat.beq j i || (Nat.testBit (ho.getD i 0) j || Nat.testBit (ho.getD j 0) i))) && Eb ho i p (j+1) os
def jQ (ops:List Oper) (W:Nat->Nat->Bool) (aA i id:Nat):Bool:=Eb (nD ops) i (fun j=>W j id) 0 ops && (Nat.blt id aA || Nat.testBit ((nD ops).getD i 0) (id - aA))
theorem qE {ops:List Oper} {ho:List Nat}:∀ {os:List Oper} {i:Nat},Ea ops ho i os=true -> ∀ j o,os[j]? = some o ->
  ho.getD (i+j) 0=tU ho o.after.toList/\(∀ e ∈ o.after.toList,Region.binds .any e=true->e.on<i+j) /\ ∀ t ∈ looks ops o,An ho (i+j) t 0 ops=true
 | [],i,_,j,o,h=>by simp at h
 | fx :: os,i,ag,j,o,h=>by
  simp only[Ea,fM] at ag;obtain ⟨J,aa,az,bk⟩:=ag
  cases j with
  | zero=>
   simp only[List.getElem?_cons_zero,ck] at h;subst h;refine ⟨iF J,fun e he hb=>?_,fun t ht=>?_⟩
   ·rw[lG] at aa;have:=aa e he;rw[hb] at this;simpa using this
   ·rw[lG] at az;exact az t ht
  | succ j=>
   have:=qE bk j o (by simpa using h);rwa [show i+1+j=i+(j+1) by omega] at this
theorem Pq {ho:List Nat} {m t:Nat}:∀ {os:List Oper} {i:Nat},An ho m t i os=true -> ∀ j o,os[j]? = some o->o.dst=some t->Nat.testBit (ho.getD m 0) (i+j)=true\/Nat.testBit (ho.getD (i+j) 0) m=true
 | [],i,_,j,o,h,_=>by simp at h
 | fx :: os,i,ag,j,o,h,hd=>by
  simp only[An,fM] at ag
  cases j with
  | zero=>
   simp only[List.getElem?_cons_zero,ck] at h;subst h;have:=ag.1;rw[hd] at this;simpa using this
  | succ j=>
   have:=Pq ag.2 j o (by simpa using h) hd;rwa [show i+1+j=i+(j+1) by omega] at this
theorem Pr {ho:List Nat} {i:Nat} {p:Nat->Bool}:∀ {os:List Oper} {k:Nat},Eb ho i p k os=true -> ∀ j o,os[j]? = some o->p (k+j)=true->k+j=i\/Nat.testBit (ho.getD i 0) (k+j)=true\/Nat.testBit (ho.getD (k+j) 0) i=true
 | [],k,_,j,o,h,_=>by simp at h
 | fx :: os,k,ag,j,o,h,hw=>by
  simp only[Eb,fM] at ag
  cases j with
  | zero=>
   have:=ag.1;rw[kq] at hw;rw[hw] at this;simpa[Nat.beq_eq] using this
  | succ j=>
   have:=Pr ag.2 j o (by simpa using h) (by rw[show k+1+j=k+(j+1) by omega];exact hw);rwa [show k+1+j=k+(j+1) by omega] at this
theorem Ps:∀ {os:List Oper},D9 os=true -> ∀ (i j:Nat) (o fx:Oper) (d:Nat),i<j->os[i]? = some o->os[j]? = some fx -> o.dst=some d->fx.dst≠some d
 | [],_,i,j,o,fx,d,_,h,_,_=>by simp at h
 | yZ :: os,ag,i,j,o,fx,d,xB,h,c6,hd=>by
  simp only[D9,fM] at ag
  cases j with
  | zero=>omega
  | succ j=>
   cases i with
   | zero=>
    simp only[List.getElem?_cons_zero,ck] at h;subst h;have:=ag.1;rw[hd] at this;simp only[lG] at this;have aa:=this fx (List.mem_of_getElem? (by simpa using c6));intro he;rw[he] at aa;simp at aa
   | succ i=>exact Ps ag.2 i j o fx d (by omega) (by simpa using h) (by simpa using c6) hd
theorem tx {ho:List Nat}:∀ {es:List Edge} {j:Nat},Nat.testBit (tU ho es) j=true -> ∃ e ∈ es,Region.binds .any e=true/\(e.on=j\/Nat.testBit (ho.getD e.on 0) j=true)
 | [],j,h=>by simp[tU] at h
 | e :: es,j,h=>by
  simp only[tU] at h
  cases hb:Region.binds .any e with
  | false=>
   rw[hb] at h;obtain ⟨kp,J,aa⟩:=tx (es:=es) h;exact⟨kp,ha _ J,aa⟩
  | true=>
   rw[hb] at h;simp only[cond_true,Nat.testBit_or,Bool.or_eq_true] at h;rcases h with(h|h)|h
   ·refine ⟨e,fV,hb,.inl ?_⟩;rw[Nat.testBit_two_pow] at h;simpa using h
   ·exact⟨e,fV,hb,.inr h⟩
   ·obtain ⟨kp,J,aa⟩:=tx (es:=es) h;exact⟨kp,ha _ J,aa⟩
structure k0 where
 v:V
 H:List (Nat×Option aT)
def nH (d:Option Tmp) (v:V) (env:List (Nat×V)):List (Nat×V):=
 match d with
 | some d=>(d,v) :: env
 | none=>env
def lq:List (Nat×Option aT)->Nat->Bool
 | [],_=>false
 | (t,_) :: r,id=>Nat.beq t id || lq r id
theorem Xd :aM (H++h) id=cond (lq H id) (aM H id) (aM h id):=by
 induction H with
 | nil=>rfl
 | cons x r bU=>
  obtain ⟨t,B⟩:=x;show cond (Nat.beq t id) B (aM (r++h) id)=cond (Nat.beq t id || lq r id) (cond (Nat.beq t id) B (aM r id)) (aM h id);rw[bU]
  cases Nat.beq t id <;> rfl
theorem xG :aM (H++h) id=if lq H id=true then aM H id else aM h id:=by
 rw[Xd];generalize lq H id=b
 cases b <;> rfl
def jC:List (Oper×k0)->Nat->(Nat->Bool)->List (Nat×V)->List (Nat×V)
 | [],_,_,e=>e
 | (o,s) :: r,i,p,e=>jC r (i+1) p (if p i=true then nH o.dst s.v e else e)
def jD:List (Oper×k0)->Nat->(Nat->Bool)->List (Nat×Option aT)->List (Nat×Option aT)
 | [],_,_,h=>h
 | (o,s) :: r,i,p,h=>jD r (i+1) p (if p i=true then s.H++h else h)
theorem xH {d:Option Tmp} {e:List (Nat×V)} {t:Nat}:cW (nH d v e) t=if d=some t then some v else cW e t:=by
 cases d with
 | none=>simp[nH]
 | some d=>
  simp only[nH,cW,ck];by_cases h:d=t
  ·subst h;simp
  ·rw[ah h];have hb:Nat.beq d t=false:=by
    cases hb:Nat.beq d t
    ·rfl
    ·exact absurd (iF hb) h
   rw[hb];rfl
theorem Ao {t:Nat}:∀ {z:List (Oper×k0)} {i:Nat} {p q:Nat->Bool} {aI a7:List (Nat×V)},(∀ j o s,z[j]? = some (o,s)->o.dst=some t->p (i+j)=q (i+j))->cW aI t=cW a7 t->cW (jC z i p aI) t=cW (jC z i q a7) t
 | [],i,p,q,aI,a7,_,h=>h
 | (o,s) :: r,i,p,q,aI,a7,ar,h=>by
  simp only[jC];refine Ao (fun j fx dP ad hd=>?_) ?_
  ·have:=ar (j+1) fx dP kY hd;rwa [show i+(j+1)=i+1+j by omega] at this
  ·by_cases hd:o.dst=some t
   ·have:=ar 0 o s (by simp) hd;simp only[kq] at this;rw[this];split
    ·rw[xH,xH,al hd,al hd]
    ·exact h
   ·have e:∀ (b:Bool) (e:List (Nat×V)),cW (if b=true then nH o.dst s.v e else e) t=cW e t:=fun b e=>by
     cases b
     ·rfl
     ·simp only[if_true];rw[xH,ah hd]
    rw[e,e];exact h
theorem Ap {id:Nat}:∀ {z:List (Oper×k0)} {i:Nat} {p q:Nat->Bool} {aI a7:List (Nat×Option aT)},(∀ j o s,z[j]? = some (o,s)->lq s.H id=true->p (i+j)=q (i+j))->aM aI id=aM a7 id->aM (jD z i p aI) id=aM (jD z i q a7) id
 | [],i,p,q,aI,a7,_,h=>h
 | (o,s) :: r,i,p,q,aI,a7,ar,h=>by
  simp only[jD];refine Ap (fun j fx dP ad hd=>?_) ?_
  ·have:=ar (j+1) fx dP kY hd;rwa [show i+(j+1)=i+1+j by omega] at this
  ·by_cases hd:lq s.H id=true
   ·have:=ar 0 o s (by simp) hd;simp only[kq] at this;rw[this];split
    ·rw[xG,xG,al hd,al hd]
    ·exact h
   ·have e:∀ (b:Bool) (e:List (Nat×Option aT)),aM (if b=true then s.H++e else e) id=aM e id:=fun b e=>by
     cases b
     ·rfl
     ·simp only[if_true];rw[xG,ah hd]
    rw[e,e];exact h
theorem Pt {t k:Nat} {ok:Oper} {xI:k0}:∀ {z:List (Oper×k0)} {i:Nat} {p q:Nat->Bool} {e:List (Nat×V)},z[k]? = some (ok,xI)->(∀ j,j≠i+k->q j=p j)->q (i+k)=true->p (i+k)=false ->
  (∀ j o s,z[j]? = some (o,s)->k<j->ok.dst=some t->o.dst≠some t)->cW (jC z i q e) t=cW (nH ok.dst xI.v (jC z i p e)) t
 | [],i,p,q,e,aU,_,_,_,_=>by simp at aU
 | (o,s) :: r,i,p,q,e,aU,hq,sF,sG,hd=>by
  simp only[jC]
  cases k with
  | zero=>
   simp only[List.getElem?_cons_zero,ck,Prod.mk.injEq] at aU;obtain ⟨rfl,rfl⟩:=aU;simp only[kq] at sF sG;rw[sF,sG];simp only[if_true,Bool.false_eq_true,if_false];rw[xH];by_cases ht:o.dst=some t
   ·rw[al ht];have J:cW (jC r (i+1) q (nH o.dst s.v e)) t=cW (jC r (i+1) (fun _=>false) (nH o.dst s.v e)) t:=Ao (fun j fx dP ad qP=>absurd qP (hd (j+1) fx dP kY (by omega) ht)) rfl;have aa:∀ (z:List (Oper×k0)) (i:Nat) (e:List (Nat×V)),jC z i (fun _=>false) e=e:=by
     intro z;induction z with
     | nil=>intro i e;rfl
     | cons x r bU=>intro i e;obtain ⟨o,s⟩:=x;simp only[jC];exact bU _ _
    rw[J,aa,xH,al ht]
   ·rw[ah ht];exact Ao (fun j fx dP ad qP=>hq _ (by omega)) (by rw[xH,ah ht])
  | succ k=>
   rw[show i+(k+1)=i+1+k by omega] at hq sF sG;rw[hq i (by omega)];exact Pt (by simpa using aU) hq sF sG (fun j fx dP ad Ec=>hd (j+1) fx dP kY (by omega))
theorem za:∀ (z:List (Oper×k0)) (i:Nat) (p:Nat->Bool) (e:List (Nat×Option aT)),(∀ j,p (i+j)=false)->jD z i p e=e
 | [],i,p,e,_=>rfl
 | (o,s) :: r,i,p,e,h=>by
  simp only[jD];have ai:=h 0;simp only[kq] at ai;rw[ai];simp only[Bool.false_eq_true,if_false];exact za r (i+1) p e (fun j=>by have:=h (j+1);rwa [show i+(j+1)=i+1+j by omega] at this)
theorem C3:∀ (z:List (Oper×k0)) (i:Nat) (p:Nat->Bool) (e:List (Nat×V)),(∀ j,p (i+j)=false)->jC z i p e=e
 | [],i,p,e,_=>rfl
 | (o,s) :: r,i,p,e,h=>by
  simp only[jC];have ai:=h 0;simp only[kq] at ai;rw[ai];simp only[Bool.false_eq_true,if_false];exact C3 r (i+1) p e (fun j=>by have:=h (j+1);rwa [show i+(j+1)=i+1+j by omega] at this)
theorem Pu {id k:Nat} {ok:Oper} {xI:k0}:∀ {z:List (Oper×k0)} {i:Nat} {p q:Nat->Bool} {e:List (Nat×Option aT)},z[k]? = some (ok,xI)->(∀ j,j≠i+k->q j=p j)->q (i+k)=true->p (i+k)=false ->
  (∀ j o s,z[j]? = some (o,s)->k<j->lq xI.H id=true->lq s.H id=true->p (i+j)=false)->aM (jD z i q e) id=aM (xI.H++jD z i p e) id
 | [],i,p,q,e,aU,_,_,_,_=>by simp at aU
 | (o,s) :: r,i,p,q,e,aU,hq,sF,sG,hd=>by
  simp only[jD]
  cases k with
  | zero=>
   simp only[List.getElem?_cons_zero,ck,Prod.mk.injEq] at aU;obtain ⟨rfl,rfl⟩:=aU;simp only[kq] at sF sG;rw[sF,sG];simp only[if_true,Bool.false_eq_true,if_false];rw[xG];by_cases ht:lq s.H id=true
   ·rw[al ht]
    have J:aM (jD r (i+1) q (s.H++e)) id=aM (jD r (i+1) (fun _=>false) (s.H++e)) id:=Ap (fun j fx dP ad qP=>by
     rw[hq _ (by omega)];have:=hd (j+1) fx dP kY (by omega) ht qP
     rwa [show i+(j+1)=i+1+j by omega] at this) rfl
    rw[J,za _ _ _ _ (fun _=>rfl),xG,al ht]
   ·rw[ah ht];exact Ap (fun j fx dP ad qP=>hq _ (by omega)) (by rw[xG,ah ht])
  | succ k=>
   rw[show i+(k+1)=i+1+k by omega] at hq sF sG;rw[hq i (by omega)]
   exact Pu (by simpa using aU) hq sF sG (fun j fx dP ad Ec J aa=>by
    have:=hd (j+1) fx dP kY (by omega) J aa
    rwa [show i+(j+1)=i+1+j by omega] at this)
section
variable {P:Program} {N af aA:Nat} {ops:List Oper} {W:Nat->Nat->Bool}
def ru (P:Program) (ops:Array Oper) (o:Oper) (K:Act->World->Prop) (a:Act) (w:World):Prop:=
 if Region.wanted o (yielded ops a.tmps)=true then o.wp P a w K (fun _ _ _=>False) else K (a.put o.dst undef) w
def Aq (P:Program) (N af mZ:Nat) (ops:List Oper) (o:Oper) (E:List (Nat×V)) (Hn:List (Nat×Option aT)) (s:k0):Prop:=
 ∀ env heap,(∀ t x,cW E t=some x->cW env t=some x)->(∀ id B,aM Hn id=some B->aM heap id=some B) ->
  ∀ F M w0 ρ a w,eA F M ρ heap N w0 w->e0 ρ (bs F ρ heap) w af env a->ρ mZ=none ->
   ru P ops.toArray o (fun hx aF=>∃ bl,eA F M bl (s.H++heap) N w0 aF /\ e0 bl (bs F bl (s.H++heap)) aF af (nH o.dst s.v env) hx /\ (∀ id,id<N->id≠mZ->bl id=ρ id)) a w
def Ed (P:Program) (N af aA:Nat) (ops:List Oper) (W:Nat->Nat->Bool) (i:Nat) (o:Oper) (env:List (Nat×V)) (heap:List (Nat×Option aT)) (s:k0):Prop:=
 ∃ E Hn,(∀ t x,cW E t=some x->t ∈ looks ops o/\cW env t=some x)/\(∀ id B,aM Hn id=some B->jQ ops W aA i id=true/\aM heap id=some B) /\
  (∀ id,lq s.H id=true->id=aA+i\/(W i id=true/\D8 o.op=true/\jQ ops W aA i id=true))/\Aq P N af (aA+i) ops o E Hn s
inductive qQ (P:Program) (N af aA:Nat) (ops:List Oper) (W:Nat->Nat->Bool):Nat->List Oper->List (Nat×V)->List (Nat×Option aT)->List k0->List (Nat×V)->List (Nat×Option aT)->Prop
 | nil (i:Nat) (env:List (Nat×V)) (heap:List (Nat×Option aT)):qQ P N af aA ops W i [] env heap [] env heap
 | cons {i:Nat} {o:Oper} {rest:List Oper} {env:List (Nat×V)} {heap:List (Nat×Option aT)} {s:k0} {fA:List k0} {jW:List (Nat×V)} {dX:List (Nat×Option aT)}
   (h:Ed P N af aA ops W i o env heap s) (hr:qQ P N af aA ops W (i+1) rest (nH o.dst s.v env) (s.H++heap) fA jW dX):qQ P N af aA ops W i (o :: rest) env heap (s :: fA) jW dX
theorem rv {m:Nat} (h:m<n):Nat.blt m n=true:=Nat.ble_eq_true_of_le h
theorem xJ {m:Nat} (h:n<=m):Nat.blt m n=false:=by
 cases hb:Nat.blt m n with
 | false=>rfl
 | true=>have:=bM hb;omega
theorem qQ.len {rest:List Oper} {env:List (Nat×V)} {heap:List (Nat×Option aT)} {fA:List k0} (h:qQ P N af aA ops W i rest env heap fA jW dX):fA.length=rest.length:=by
 induction h with
 | nil=>rfl
 | cons h hr bU=>simp[bU]
theorem qQ.get {rest:List Oper} {env:List (Nat×V)} {heap:List (Nat×Option aT)} {fA:List k0} (h:qQ P N af aA ops W i rest env heap fA jW dX) :
  ∀ j o s,(rest.zip fA)[j]? = some (o,s)->Ed P N af aA ops W (i+j) o (jC (rest.zip fA) i (fun x=>Nat.blt x (i+j)) env) (jD (rest.zip fA) i (fun x=>Nat.blt x (i+j)) heap) s:=by
 induction h with
 | nil=>intro j o s h;simp at h
 | @cons i o rest env heap s fA jW dX h hr bU=>
  intro j fx dP ad
  cases j with
  | zero=>
   simp only[List.zip_cons_cons,List.getElem?_cons_zero,ck,Prod.mk.injEq] at ad;obtain ⟨rfl,rfl⟩:=ad;rw[C3 _ _ (fun x=>Nat.blt x (i+0)) _ (fun j=>xJ (by omega)),za _ _ (fun x=>Nat.blt x (i+0)) _ (fun j=>xJ (by omega))];exact h
  | succ j=>
   have:=bU j fx dP kY;rw[show i+1+j=i+(j+1) by omega] at this;simp only[List.zip_cons_cons,jC,jD];rw[al (rv (by omega)),al (rv (by omega))];exact this
theorem qQ.fin {rest:List Oper} {env:List (Nat×V)} {heap:List (Nat×Option aT)} {fA:List k0} (h:qQ P N af aA ops W i rest env heap fA jW dX) :
  jW=jC (rest.zip fA) i (fun x=>Nat.blt x (i+rest.length)) env/\dX=jD (rest.zip fA) i (fun x=>Nat.blt x (i+rest.length)) heap:=by
 induction h with
 | nil=>exact⟨rfl,rfl⟩
 | @cons i o rest env heap s fA jW dX h hr bU=>
  simp only[List.zip_cons_cons,jC,jD,eb];rw[al (rv (by omega)),al (rv (by omega))];rw[show i+(rest.length+1)=i+1+rest.length by omega];exact bU
theorem eA.same {heap cB:List (Nat×Option aT)} {next:Nat} (h:eA F M ρ heap next w0 w) (he:∀ id,aM cB id=aM heap id):eA F M ρ cB next w0 w /\ ∀ b,bs F ρ heap b ↔ bs F ρ cB b:=by
 have aw:∀ b,bs F ρ heap b ↔ bs F ρ cB b:=fun b=>⟨fun h=>⟨h.1,fun id B u an=>h.2 id B u (by rw[<- he];exact an)⟩,fun h=>⟨h.1,fun id B u an=>h.2 id B u (by rw[he];exact an)⟩⟩
 refine ⟨⟨⟨h.below,h.fl,h.sup,fun id dk B bd u dD b an b0=>h.inj id dk B bd u dD b (by rw[<- he];exact an) (by rw[<- he];exact b0),fun id B an=>?_⟩,h.dX⟩,aw⟩;exact(h.cJ id B (by rw[<- he];exact an)).mono (dl.refl _ _) (fun b h _=>(aw b).1 h) (fun _ _ h=>h) (fun _ _ _ _ _ _=>rfl)
theorem Xe {o:Oper} {Q:Exit->Act->World->Prop} {ops:Array Oper} (hi:ops[i]? = some o) (h:ru P ops o K a w):wpOp P ops Q i K a w:=by
 unfold wpOp;simp only[hi];unfold ru at h;split
 ·rename_i hw;rw[al hw] at h;exact .inl (CY (fun _ _ h=>h) (fun _ _ _ h=>h.elim) h)
 ·rename_i hw;rw[ah hw] at h;exact h
theorem Xf {ops:Array Oper} {o:Oper} (h:∀ a w,K a w->qC a w) (hh:ru P ops o K a w):ru P ops o qC a w:=by
 unfold ru at *;split
 ·rename_i hw;rw[al hw] at hh;exact tN h hh
 ·rename_i hw;rw[ah hw] at hh;exact h _ _ hh
theorem Nz {n0:Nat} {vB:List (Nat×V)} {sH:List (Nat×Option aT)} {fA:List k0} (bP:ms ops=true) (ar:qQ P (aA+ops.length) af aA ops W 0 ops vB sH fA jW dX) (hn0:n0<=aA) {ρ0:Nat->Option Value}:∀ (iO:Nat) (us:List Nat) (e2:Array Bool) (a:Act) (w:World) (ρ:Nat->Option Value),us.length=iO->us.Nodup->(∀ i,i ∈ us ↔ (i<ops.length/\e2.getD i false=false))->e2.size=ops.length ->
   (∀ i j,e2.getD i false=true->Nat.testBit ((nD ops).getD i 0) j=true->e2.getD j false=true) ->
   eA F M ρ (jD (ops.zip fA) 0 (fun i=>e2.getD i false) sH) (aA+ops.length) w0 w->e0 ρ (bs F ρ (jD (ops.zip fA) 0 (fun i=>e2.getD i false) sH)) w af (jC (ops.zip fA) 0 (fun i=>e2.getD i false) vB) a ->
   (∀ id,id<n0->ρ id=ρ0 id)->(∀ i,i<ops.length->e2.getD i false=false->ρ (aA+i)=none) ->
   wpAny P .any ops.toArray (kV n0 F M w0 ρ0 (DN fun st=>st=⟨jW,dX,aA+ops.length,af⟩)) iO e2 a w:=by
 simp only[ms,fM] at bP;obtain ⟨Xg,bP⟩:=bP;have hlen:=ar.len;have my:=ar.get;obtain ⟨rO,Xh⟩:=ar.fin;have aU:∀ i o,ops[i]? = some o -> ∃ s,(ops.zip fA)[i]? = some (o,s):=fun i o h=>by
  have bW:=(ko.1 h).1;refine ⟨fA[i]'(by omega),?_⟩;rw[List.getElem?_zip_eq_some];exact⟨h,eB _⟩
 have ln:∀ j o s,(ops.zip fA)[j]? = some (o,s)->ops[j]? = some o:=fun j o s h=>(List.getElem?_zip_eq_some.1 h).1
 have Xi:∀ n i,i<n -> ∀ o,ops[i]? = some o -> ∀ j,Nat.testBit ((nD ops).getD i 0) j=true->j<i:=by
  intro n;induction n with
  | zero=>intro i h;omega
  | succ n qD=>
   intro i cf o ae j ad;obtain ⟨aL,aS,bi⟩:=qE bP i o ae;rw[fy] at aL aS;rw[aL] at ad;obtain ⟨e,he,hb,h1⟩:=tx ad;have:=aS e he hb;rcases h1 with rfl|h1
   ·exact this
   ·have gb:=(ko.1 ae).1;have:=qD e.on (by omega) ops[e.on] (eB (by omega)) j h1;omega
 have Pv:∀ (us:List Nat) (e2:Array Bool) (a:Act) (w:World) (ρ:Nat->Option Value),(∀ i,i ∈ us ↔ (i<ops.length/\e2.getD i false=false))->us=[] ->
   eA F M ρ (jD (ops.zip fA) 0 (fun i=>e2.getD i false) sH) (aA+ops.length) w0 w->e0 ρ (bs F ρ (jD (ops.zip fA) 0 (fun i=>e2.getD i false) sH)) w af (jC (ops.zip fA) 0 (fun i=>e2.getD i false) vB) a ->
   (∀ id,id<n0->ρ id=ρ0 id)->kV n0 F M w0 ρ0 (DN fun st=>st=⟨jW,dX,aA+ops.length,af⟩) .normal a w:=by
  intro us e2 a w ρ mu pL hH ax ff;have im:∀ i,i<ops.length->e2.getD i false=true:=fun i hi=>by
   cases hb:e2.getD i false with
   | true=>rfl
   | false=>
    have:=(mu i).2 ⟨hi,hb⟩;rw[pL] at this;cases this
  have aI:∀ t,cW jW t=cW (jC (ops.zip fA) 0 (fun i=>e2.getD i false) vB) t:=fun t=>by
   rw[rO];refine Ao (fun j o s ad _=>?_) rfl;have bW:=(ko.1 (ln _ _ _ ad)).1;rw[fy,fy,im j bW,rv bW]
  have a7:∀ id,aM dX id=aM (jD (ops.zip fA) 0 (fun i=>e2.getD i false) sH) id:=fun id=>by
   rw[Xh];refine Ap (fun j o s ad _=>?_) rfl;have bW:=(ko.1 (ln _ _ _ ad)).1;rw[fy,fy,im j bW,rv bW]
  obtain ⟨g1,g2⟩:=hH.same a7;exact⟨ρ,_,⟨rfl,rfl⟩,g1,⟨ax.size,ax.defers,fun t v ak=>by rw[aI] at ak;exact(ax.slot t v ak).mono (dl.refl _ _) (fun b h _=>(g2 b).1 h) (fun _ _ h=>h)⟩,ff⟩
 intro iO;induction iO with
 | zero=>
  intro us e2 a w ρ tz nQ mu cZ nE hH ax ff Ja;have pL:us=[]:=pj tz;refine ⟨?_,Pv us e2 a w ρ mu pL hH ax ff⟩
  cases hr:Region.ready .any ops.toArray e2 with
  | nil=>rfl
  | cons i r=>
   exfalso;have hm:i ∈ Region.ready .any ops.toArray e2:=by rw[hr];exact fV
   rw[mem_ready] at hm;obtain ⟨J,o,aa,_⟩:=hm;have bW:i<ops.length:=(ko.1 (by simpa using aa)).1;have:i ∈ us:=(mu i).2 ⟨bW,by rw[gg] at J ⊢;rw[l2 (by omega)] at J ⊢;exact J⟩;rw[pL] at this;cases this
 | succ iO bU=>
  intro us e2 a w ρ tz nQ mu cZ nE hH ax ff Ja;have mw:∀ i,i<ops.length->e2.getD i true=e2.getD i false:=fun i hi=>by
   rw[gg,gg,l2 (by omega)];rfl
  refine ⟨fun hr=>?_,fun i hi=>?_⟩
  ·
   have im:∀ n i,i<n->i<ops.length->e2.getD i false=true:=by
    intro n;induction n with
    | zero=>intro i h;omega
    | succ n qD=>
     intro i cf jL
     cases hb:e2.getD i false with
     | true=>rfl
     | false=>
      exfalso;have:i ∈ Region.ready .any ops.toArray e2:=by
       rw[mem_ready];refine ⟨by rw[mw i jL];exact hb,ops[i],by simp[jL],fun e he xe=>?_⟩;have:=(qE bP i ops[i] (eB jL)).2.1 e (by simpa using he) xe;exact qD e.on (by omega) (by omega)
      rw[hr] at this;cases this
   have pL:us=[]:=List.eq_nil_iff_forall_not_mem.2 (fun i hi=>by
    have:=(mu i).1 hi;rw[im (i+1) i (by omega) this.1] at this
    exact Bool.noConfusion this.2)
   exact Pv us e2 a w ρ mu pL hH ax ff
  ·rw[mem_ready] at hi;obtain ⟨J,o,aa,az⟩:=hi;have aa:ops[i]? = some o:=by simpa using aa
   have bW:i<ops.length:=(ko.1 aa).1;rw[mw i bW] at J;obtain ⟨s,aw⟩:=aU i o aa;obtain ⟨E,Hn,g1,g2,g3,g4⟩:=my i o s aw;rw[fy] at g1 g2 g3 g4;obtain ⟨yZ,Hu,Pw⟩:=qE bP i o aa;rw[fy] at yZ Hu Pw;have xf:∀ j,Nat.testBit ((nD ops).getD i 0) j=true->e2.getD j false=true/\j<i:=by
    have im:∀ n i,i<n -> ∀ o,ops[i]? = some o -> ∀ j,Nat.testBit ((nD ops).getD i 0) j=true->j<i:=by
     intro n;induction n with
     | zero=>intro i h;omega
     | succ n qD=>
      intro i cf o ae j ad;obtain ⟨aL,aS,bi⟩:=qE bP i o ae;rw[fy] at aL aS;rw[aL] at ad;obtain ⟨e,he,hb,h1⟩:=tx ad;have:=aS e he hb;rcases h1 with rfl|h1
      ·exact this
      ·have gb:=(ko.1 ae).1;have:=qD e.on (by omega) ops[e.on] (eB (by omega)) j h1;omega
    intro j ad;refine ⟨?_,im (i+1) i (by omega) o aa j ad⟩;rw[yZ] at ad;obtain ⟨e,he,hb,h1⟩:=tx ad;have:=az e (by simpa using he) hb;rcases h1 with rfl|h1
    ·exact this
    ·exact nE _ _ this h1
   refine Xe (by simpa using aa) ?_;have Px:∀ id,jQ ops W aA i id=true -> ∀ j fx dP,(ops.zip fA)[j]? = some (fx,dP)->lq dP.H id=true->Nat.blt j i=e2.getD j false/\(j=i\/Nat.blt j i=true\/e2.getD j false=false):=by
    intro id ak j fx dP ad cf;obtain ⟨Xj,Xk,_,_,fJ,_⟩:=my j fx dP ad;rw[fy] at fJ;simp only[jQ,fM,Bool.or_eq_true,Bool.not_eq_true'] at ak;obtain ⟨v1,v2⟩:=ak;by_cases jV:j=i
    ·subst jV;exact⟨by rw[J];exact xJ (e4 _),.inl rfl⟩
    rcases fJ id cf with rfl | ⟨c4,du,w3⟩
    ·rcases v2 with v2|v2
     ·have:=bM v2;omega
     ·rw[Nat.add_sub_cancel_left] at v2;obtain ⟨m1,m2⟩:=xf j v2;exact⟨by rw[m1,rv m2],.inr (.inl (rv m2))⟩
    ·rcases Pr v1 j fx (ln _ _ _ ad) (by rw[fy];exact c4) with b6|b6|b6
     ·exact absurd (by omega) jV
     ·rw[fy] at b6;obtain ⟨m1,m2⟩:=xf j b6;exact⟨by rw[m1,rv m2],.inr (.inl (rv m2))⟩
     ·rw[fy] at b6;have nR:=(ko.1 (ln _ _ _ ad)).1;have om:e2.getD j false=false:=by
       cases hb:e2.getD j false with
       | false=>rfl
       | true=>rw[nE j i hb b6] at J;cases J
      have ab5:¬ j<i:=by
       intro I1;have im:∀ n i,i<n -> ∀ o,ops[i]? = some o -> ∀ j,Nat.testBit ((nD ops).getD i 0) j=true->j<i:=by
        intro n;induction n with
        | zero=>intro i h;omega
        | succ n qD=>
         intro i cf o ae j ad;obtain ⟨aL,aS,bi⟩:=qE bP i o ae;rw[fy] at aL aS;rw[aL] at ad;obtain ⟨e,he,hb,h1⟩:=tx ad;have:=aS e he hb;rcases h1 with rfl|h1
         ·exact this
         ·have gb:=(ko.1 ae).1;have:=qD e.on (by omega) ops[e.on] (eB (by omega)) j h1;omega
       have:=im (j+1) j (by omega) fx (ln _ _ _ ad) i b6;omega
      exact⟨by rw[om];exact xJ (by omega),.inr (.inr om)⟩
   have Xl:∀ t x,cW E t=some x->cW (jC (ops.zip fA) 0 (fun i=>e2.getD i false) vB) t=some x:=by
    intro t x ht;obtain ⟨bB,de⟩:=g1 t x ht;rw[<- de];refine Ao (fun j fx dP ad hd=>?_) rfl;have:=Pq (Pw t bB) j fx (ln _ _ _ ad) hd;rw[fy] at this ⊢;rcases this with this|this
    ·obtain ⟨m1,m2⟩:=xf j this;simp[m1,m2]
    ·have I1:=Xi (j+1) j (by omega) fx (ln _ _ _ ad) i this;have om:e2.getD j false=false:=by
      cases hb:e2.getD j false with
      | false=>rfl
      | true=>rw[nE j i hb this] at J;cases J
     rw[om]
     first|exact xJ (by omega)|exact(xJ (by omega)).symm
   have Ar:∀ id B,aM Hn id=some B->aM (jD (ops.zip fA) 0 (fun i=>e2.getD i false) sH) id=some B:=by
    intro id B an;obtain ⟨bB,de⟩:=g2 id B an;rw[<- de];refine Ap (fun j fx dP ad hd=>?_) rfl;rw[fy];exact(Px id bB j fx dP ad hd).1.symm
   refine Xf ?_ (g4 _ _ Xl Ar F M w0 ρ a w hH ax (Ja i bW J));rintro hx aF ⟨bl,aL,aS,bi⟩;have mi:∀ j,(e2.setIfInBounds i true).getD j false=if j=i then true else e2.getD j false:=fun j=>by
    by_cases jV:j=i
    ·subst jV;rw[al rfl,gg,Array.getElem?_setIfInBounds_self_of_lt (by omega)];rfl
    ·rw[ah jV,getD_set_ne false (Ne.symm jV)]
   have Xm:∀ t,cW (jC (ops.zip fA) 0 (fun j=>(e2.setIfInBounds i true).getD j false) vB) t=cW (nH o.dst s.v (jC (ops.zip fA) 0 (fun j=>e2.getD j false) vB)) t:=fun t=>
    Pt aw (fun j ad=>by rw[fy] at ad;rw[mi,ah ad]) (by rw[fy,mi,al rfl]) (by rw[fy];exact J) (fun j fx dP ad Ec hd=>Ps Xg i j o fx t Ec aa (ln _ _ _ ad) hd)
   have Xn:∀ id,aM (jD (ops.zip fA) 0 (fun j=>(e2.setIfInBounds i true).getD j false) sH) id=aM (s.H++jD (ops.zip fA) 0 (fun j=>e2.getD j false) sH) id:=fun id=>
    Pu aw (fun j ad=>by rw[fy] at ad;rw[mi,ah ad]) (by rw[fy,mi,al rfl]) (by rw[fy];exact J) (fun j fx dP ad Ec cf Py=>by
     rw[fy];rcases g3 id cf with rfl | ⟨c4,du,w3⟩
     ·
      cases hb:e2.getD j false with
      | false=>rfl
      | true=>
       exfalso;obtain ⟨Xj,Xk,_,_,fJ,_⟩:=my j fx dP ad;rw[fy] at fJ;rcases fJ _ Py with e | ⟨ew,er,eK⟩
       ·omega
       ·simp only[jQ,fM,Bool.or_eq_true] at eK;rcases eK.2 with eK|eK
        ·have:=bM eK;omega
        ·rw[Nat.add_sub_cancel_left] at eK;rw[nE j i hb eK] at J;cases J
     ·rcases (Px id w3 j fx dP ad Py).2 with e|e|e
      ·omega
      ·have:=bM e;omega
      ·exact e)
   obtain ⟨As,xK⟩:=aL.same Xn;refine bU (us.erase i) (e2.setIfInBounds i true) hx aF bl ?_ (nQ.erase i) (fun j=>?_) (by simp[cZ]) (fun j k ad ag=>?_) As ⟨aS.size,aS.defers,fun t v ak=>?_⟩ (fun id hid=>?_) (fun j ad ao=>?_)
   ·have:i ∈ us:=(mu i).2 ⟨bW,J⟩;rw[List.length_erase_of_mem this];omega
   ·rw[nQ.mem_erase_iff,mu,mi];constructor
    ·rintro ⟨bB,de,fJ⟩;rw[ah bB];exact⟨de,fJ⟩
    ·rintro ⟨de,fJ⟩;split at fJ
     ·cases fJ
     ·rename_i bB;exact⟨bB,de,fJ⟩
   ·rw[mi] at ad ⊢;split
    ·rfl
    ·split at ad
     ·rename_i e;subst e;exact(xf k ag).1
     ·exact nE j k ad ag
   ·rw[Xm] at ak;exact(aS.slot t v ak).mono (dl.refl _ _) (fun b h _=>(xK b).1 h) (fun _ _ h=>h)
   ·rw[bi id (by omega) (by omega)];exact ff id hid
   ·rw[mi] at ao;split at ao
    ·cases ao
    ·rename_i ct;rw[bi _ (by omega) (by omega)];exact Ja j ad ao
end
end
section
open Go.RowKit
section
variable {P:Program} {N af aA k bn n0:Nat} {ops:List Oper} {W:Nat->Nat->Bool} {o:Oper} {rest:List Oper} {env:List (Nat×V)} {heap:List (Nat×Option aT)} {Q:aW->Prop}
def bt:List Nat->List (Nat×V)->List (Nat×V)
 | [],_=>[]
 | t :: ts,env=>match cW env t with
  | some v=>(t,v) :: bt ts env
  | none=>bt ts env
theorem nI:∀ {ts:List Nat} {env:List (Nat×V)} {t:Nat} {x:V},cW (bt ts env) t=some x->t ∈ ts/\cW env t=some x
 | [],env,t,x,h=>by simp[bt,cW] at h
 | s :: ts,env,t,x,h=>by
  simp only[bt] at h;split at h
  ·rename_i v ak;simp only[cW] at h
   cases hb:Nat.beq s t with
   | true=>
    rw[hb] at h;simp only[cond_true,ck] at h;have:=iF hb;subst this;subst h;exact⟨fV,ak⟩
   | false=>
    rw[hb] at h;have:=nI (ts:=ts) h;exact⟨ha _ this.1,this.2⟩
  ·have:=nI (ts:=ts) h;exact⟨ha _ this.1,this.2⟩
def vC (E env:List (Nat×V)):Prop:=∀ t x,cW E t=some x->cW env t=some x
def xL (E env:List (Nat×Option aT)):Prop:=∀ t x,aM E t=some x->aM env t=some x
theorem kB {env:List (Nat×V)} (h:vC E env) (U:aJ E x=some v):aJ env x=some v:=by
 cases x with
 | tmp t=>exact h t v U
 | const c=>cases c <;> exact U
 | _=>exact U
mutual
theorem Xo {E env:List (Nat×Option aT)} (h:xL E env):∀ (v:V) {cH:V},ih E v=some cH -> ih env v=some cH
 | .lit _,_,ak=>ak
 | .ro _,_,ak=>ak
 | .own id,cH,ak=>by
  simp only[ih] at ak ⊢
  cases an:aM E id with
  | none=>rw[an] at ak;cases ak
  | some B=>rw[h id B an];rw[an] at ak;exact ak
 | .ptr ..,_,ak=>ak
 | .fk _,_,ak=>ak
 | .agg cs,cH,ak=>by
  simp only[ih] at ak ⊢;split at ak
  ·rename_i eU J;rw[Ee h cs J];exact ak
  ·cases ak
 | .bN cs,cH,ak=>by
  simp only[ih] at ak ⊢;split at ak
  ·rename_i eU J;rw[Ee h cs J];exact ak
  ·cases ak
 | .fs ..,_,ak=>ak
 | .any,_,ak=>ak
 | .gN,_,ak=>ak
theorem Ee {E env:List (Nat×Option aT)} (h:xL E env):∀ (cs:List V) {eU:List V},ih.o6 E cs=some eU -> ih.o6 env cs=some eU
 | [],_,ak=>ak
 | c :: cs,eU,ak=>by
  simp only[ih.o6] at ak ⊢;split at ak
  ·rename_i hM O8 J aa;rw[Xo h c J,Ee h cs aa];exact ak
  ·cases ak
end
theorem Au {E env:List (Nat×V)} (h:vC E env):∀ {xs:List Operand} {vs:List V},h3 E xs=some vs->h3 env xs=some vs
 | [],vs,U=>U
 | x :: xs,vs,U=>by
  simp only[h3] at U ⊢;split at U
  ·rename_i v cP J aa;rw[kB h J,Au h aa];exact U
  ·cases U
theorem Ef {env:List (Nat×V)} (h:vC E env) {g:Option (Nat×Bool)} {b:Bool} (av:b1 E ops g=some b):b1 env ops g=some b:=by
 cases g with
 | none=>exact av
 | some II=>
  obtain ⟨j,w⟩:=II;simp only[b1] at av ⊢
  cases ad:ops[j]? with
  | none=>rw[ad] at av;cases av
  | some zR=>
   simp only[ad] at av ⊢
   cases hd:zR.dst with
   | none=>simp only[hd] at av;cases av
   | some d=>
    simp only[hd] at av ⊢
    cases he:cW E d with
    | none=>simp only[he] at av;cases av
    | some v=>rw[h d v he];rw[he] at av;exact av
theorem Pz (av:b1 E ops o.guard=some false) (hd:mX af o.dst=true):Aq P N af mZ ops o E Hn ⟨.gN,[]⟩:=
 fun env heap ax hH F M w0 ρ a w J aa ag=>by
  unfold ru;rw[ah (by rw[qz aa (Ef ax av)];exact iS)];refine ⟨ρ,J,?_,fun _ _ _=>rfl⟩;have:=e0.zS (st:=⟨env,heap,N,af⟩) aa hd (v:=.gN) .gN
  cases PA:o.dst with
  | none=>rw[PA] at this;exact this
  | some d=>rw[PA] at this;exact this
theorem Xp {env:List (Nat×V)} (h:e0 ρ S w af env a) {d:Option Tmp} (hd:mX af d=true) (ak:cT ρ S w v u):e0 ρ S w af (nH d v env) (a.put d u):=by
 cases d with
 | none=>exact h
 | some d=>exact h.put (bM hd) ak
theorem Xq (av:b1 E ops o.guard=some true) (hd:mX af o.dst=true) (hq:bu P [] o ⟨E,Hn,N,af⟩ v):Aq P N af mZ ops o E Hn ⟨v,[]⟩:=
 fun env heap ax hH F M w0 ρ a w J aa ag=>by
  unfold ru;rw[al (qz aa (Ef ax av))];have hS:∀ b,bs (bs F ρ heap) ρ Hn b ↔ bs F ρ heap b:=fun b=>⟨fun h=>h.1,fun h=>⟨h,fun id B u an ae hu=>h.2 id B u (hH id B an) ae hu⟩⟩
  have o4:bs (bs F ρ heap) ρ Hn=bs F ρ heap:=funext fun b=>propext (hS b)
  have g1:HRel0 (bs F ρ heap) M ρ Hn N w0 w:=⟨J.below,J.fl,J.sup,fun id dk B bd u dD b an b0=>J.inj id dk B bd u dD b (hH _ _ an) (hH _ _ b0),fun id B an=>by rw[o4];exact J.cJ id B (hH _ _ an)⟩;have g2:e0 ρ (bs (bs F ρ heap) ρ Hn) w af E a:=⟨aa.size,aa.defers,fun t v ak=>by rw[o4];exact aa.slot t v (ax t v ak)⟩;obtain ⟨u,aL,aS⟩:=hq _ M w0 ρ a w g1 g2 rfl;rw[o4] at aL;exact l5 (aS w (Ext.refl _ _)) ⟨ρ,J,Xp aa hd aL,fun _ _ _=>rfl⟩
theorem Jb (av:b1 E ops o.guard=some true) (Xr:mZ<N) (hq:∀ env heap,vC E env->xL Hn heap->kU P mZ o ⟨env,heap,N,af⟩ ⟨nH o.dst v env,H++heap,N,af⟩):Aq P N af mZ ops o E Hn ⟨v,H⟩:=
 fun env heap ax hH F M w0 ρ a w J aa ag=>by
  unfold ru;rw[al (qz aa (Ef ax av))];refine tN ?_ (hq env heap ax hH F M w0 ρ a w J aa ag Xr);rintro hx aF ⟨bl,aL,aS,bi,cq⟩;exact⟨bl,aL,aS,fun id _ h=>cq id h⟩
theorem vD (av:b1 E ops o.guard=some true) (hq:∀ env heap,vC E env->xL Hn heap->GStep P N o ⟨env,heap,N,af⟩ ⟨nH o.dst v env,H++heap,N,af⟩):Aq P N af mZ ops o E Hn ⟨v,H⟩:=
 fun env heap ax hH F M w0 ρ a w J aa ag=>by
  unfold ru;rw[al (qz aa (Ef ax av))];refine tN ?_ (hq env heap ax hH F M w0 ρ a w J aa);rintro hx aF ⟨bl,aL,aS,bi,cq⟩;exact⟨bl,aL,aS,fun id h _=>cq id h⟩
def bf (P:Program) (af aA:Nat) (ops:List Oper) (W:Nat->Nat->Bool) (k:Nat) (rest:List Oper) (env:List (Nat×V)) (heap:List (Nat×Option aT)) (Q:aW->Prop):Prop:=
 ∃ fA jW dX,aA<=k/\k+rest.length=aA+ops.length/\qQ P (aA+ops.length) af aA ops W (k - aA) rest env heap fA jW dX/\Q ⟨jW,dX,aA+ops.length,af⟩
theorem Av (h:Q ⟨env,heap,k,af⟩) (ag:Nat.beq k (aA+ops.length)=true:=by kernel_rfl) (hb:Nat.ble aA k=true:=by kernel_rfl):bf P af aA ops W k [] env heap Q:=by
 have e:=iF ag;refine ⟨[],env,heap,bM hb,by simpa using e,.nil _ _ _,?_⟩;rw[<- e];exact h
theorem oo {s:k0} (aw:∀ N,aA<=k->k<N->Ed P N af aA ops W (k - aA) o env heap s) (h:bf P af aA ops W (k+1) rest (nH o.dst s.v env) (s.H++heap) Q) (hb:Nat.ble aA k=true):bf P af aA ops W k (o :: rest) env heap Q:=by
 obtain ⟨fA,jW,dX,J,aa,az,bk⟩:=h;have hb:=bM hb;refine ⟨s :: fA,jW,dX,hb,by simp only[eb];omega,.cons (aw _ hb (by omega)) ?_,bk⟩;rw[show k - aA+1=k+1 - aA by omega];exact az
theorem PB {st:aW} {Q:Exit->aW->Prop} {l:List Oper} (W:Nat->Nat->Bool) (h:bf P st.af st.next l W st.next l st.env st.heap (Q .normal)) (hm:P.follows .mixedOrders=true:=by kernel_rfl) (bP:ms l=true:=by kernel_rfl) (hn0:Nat.ble n0 st.next=true:=by kernel_rfl) :
    cE P n0 (.region id l.toArray true) st Q:=fun F base w0 ρ a w hH ax=>by
  obtain ⟨fA,jW,dX,_,_,az,bk⟩:=h;rw[ra] at az;have hn0:=bM hn0;have mw:∀ i,(Array.replicate l.length false).getD i false=false:=fun i=>by
    rw[gg,Array.getElem?_replicate];split <;> rfl
  have aI:jC (l.zip fA) 0 (fun i=>(Array.replicate l.length false).getD i false) st.env=st.env:=C3 _ _ _ _ (fun j=>mw _);have a7:jD (l.zip fA) 0 (fun i=>(Array.replicate l.length false).getD i false) st.heap=st.heap:=za _ _ _ _ (fun j=>mw _);refine wp_mono (wp_region_any hm (Q:=kV n0 F base w0 ρ (DN fun s=>s=⟨jW,dX,st.next+l.length,st.af⟩)) ?_) (fun e a w ar=>?_)
  · have dc:dl (bs F ρ st.heap) w { w with drawn:=w.drawn+1 }:=fun b _ _=>rfl
    have rl:eA F base ρ st.heap (st.next+l.length) w0 { w with drawn:=w.drawn+1 }:=
      ⟨⟨⟨hH.below.os, hH.below.tape, hH.below.output, hH.below.size, hH.below.block⟩, hH.fl, fun id u h => ⟨Nat.lt_of_lt_of_le (hH.sup id u h).1 (Nat.le_add_right _ _), (hH.sup id u h).2⟩, hH.inj,
        fun id B an=>(hH.cJ id B an).mono dc (fun b h _=>h) (fun _ _ h=>h) (fun _ _ _ _ _ _=>rfl)⟩,hH.dX⟩
    have qA:=ax.mono dc (fun b h _=>h) (fun _ _ h=>h);have:=Nz (n0:=n0) bP az hn0 (F:=F) (M:=base) (w0:=w0) (ρ0:=ρ) l.length (List.range l.length) (Array.replicate l.length false) a { w with drawn:=w.drawn+1 } ρ (by simp) List.nodup_range
      (fun i=>by rw[mw];simp) (by simp) (fun i j h=>by rw[mw] at h;cases h) (by rw[a7];exact rl) (by rw[aI,a7];exact qA) (fun _ _=>rfl)
      (fun i hi _=>by
        cases ff:ρ (st.next+i) with
        | none=>rfl
        | some u=>have:=(hH.sup _ _ ff).1;omega)
    simpa using this
  · obtain ⟨bl,dP,⟨rfl,rfl⟩,aL,aS,bi⟩:=ar;exact⟨bl,_,bk,aL,aS,bi⟩
theorem sI (h:lq [] id=true):False:=by cases h
theorem PC (ax:E=bt (looks ops o) env) (Jc:∀ id B,aM Hn id=some B->jQ ops W aA i id=true/\aM heap id=some B) (av:b1 E ops o.guard=some true) (hd:mX af o.dst=true) (hq:bu P [] o ⟨E,Hn,N,af⟩ v) :
  Ed P N af aA ops W i o env heap ⟨v,[]⟩:=⟨E,Hn,fun t x h=>nI (by rw[<- ax];exact h),Jc,fun id h=>(sI h).elim,Xq av hd hq⟩
theorem jc (av:b1 (bt (looks ops o) env) ops o.guard=some true) (hd:o.dst=some d) (aN:Nat.blt d af=true) (hb:Nat.ble aA k=true) (ag:k+1=bn) (hq:∀ N,bu P [] o ⟨bt (looks ops o) env,[],N,af⟩ v) (h:bf P af aA ops W bn rest ((d,v) :: env) heap Q):bf P af aA ops W k (o :: rest) env heap Q:=by
 subst ag;refine oo (s:=⟨v,[]⟩) (fun N _ _=>PC (Hn:=[]) rfl (fun id B h=>by cases h) av o7 (hq N)) ?_ hb;rw[hd];exact h
theorem Gn (av:b1 (bt (looks ops o) env) ops o.guard=some true) (hd:o.dst=some d) (aN:Nat.blt d af=true) (hb:Nat.ble aA k=true) (ag:k+1=bn) (an:aM heap id=some B) (ak:jQ ops W aA (k - aA) id=true) (hq:∀ N,bu P [] o ⟨bt (looks ops o) env,[(id,some B)],N,af⟩ v) (h:bf P af aA ops W bn rest ((d,v) :: env) heap Q):bf P af aA ops W k (o :: rest) env heap Q:=by
 subst ag;refine oo (s:=⟨v,[]⟩) (fun N _ _=>PC (Hn:=[(id,some B)]) rfl (fun dk bd c6=>?_) av o7 (hq N)) ?_ hb
 ·rw[cl] at c6;split at c6
  ·rename_i e;subst e;injection c6 with c6;subst c6;exact⟨ak,an⟩
  ·cases c6
 ·rw[hd];exact h
theorem Aw (av:b1 (bt (looks ops o) env) ops o.guard=some false:=by rfl) (hd:o.dst=some d:=by rfl) (aN:Nat.blt d af=true:=by rfl) (ag:k+1=bn:=by(simp only[Nat.reduceAdd];rfl)) (hb:Nat.ble aA k=true:=by rfl) (h:bf P af aA ops W bn rest ((d,.gN) :: env) heap Q):bf P af aA ops W k (o :: rest) env heap Q:=by
 subst ag;refine oo (s:=⟨.gN,[]⟩) (fun N _ _=>⟨bt (looks ops o) env,[],fun t x h=>nI h,fun id B h=>(by cases h),fun id h=>(sI h).elim,Pz av o7⟩) ?_ hb;rw[hd];exact h
theorem Ax (av:b1 (bt (looks ops o) env) ops o.guard=some false:=by rfl) (hd:o.dst=none:=by rfl) (ag:k+1=bn:=by(simp only[Nat.reduceAdd];rfl)) (hb:Nat.ble aA k=true:=by rfl) (h:bf P af aA ops W bn rest env heap Q):bf P af aA ops W k (o :: rest) env heap Q:=by
 subst ag;refine oo (s:=⟨.gN,[]⟩) (fun N _ _=>⟨bt (looks ops o) env,[],fun t x h=>nI h,fun id B h=>(by cases h),fun id h=>(sI h).elim,Pz av (by rw[hd];rfl)⟩) ?_ hb;rw[hd];exact h
theorem Ay {u:V} (hq:vz P [] ⟨bt (looks ops o) env,[],0,af⟩ o.op=some v:=by rfl) (av:b1 (bt (looks ops o) env) ops o.guard=some true:=by rfl) (hv:iG v u:=by first|(apply iG.agg;repeat' first|exact Norm.nil|apply Norm.cons)|(apply iG.fk;repeat' first|exact Norm.nil|apply Norm.cons)|exact iG.same) (hd:o.dst=some d:=by rfl) (aN:Nat.blt d af=true:=by rfl) (ag:k+1=bn:=by(simp only[Nat.reduceAdd];rfl)) (hb:Nat.ble aA k=true:=by rfl) (h:bf P af aA ops W bn rest ((d,u) :: env) heap Q):bf P af aA ops W k (o :: rest) env heap Q:=
 jc av hd aN hb ag (fun N=>by rw[<- hv.eq];exact I5 (st:=⟨bt (looks ops o) env,[],N,af⟩) (by exact hq)) h
def PD (env:List (Nat×V)) (op:Op):Option Nat:=
 let of (x:Operand):Option Nat:=match aJ env x with
  | some (.ptr id _ _ _)=>some id
  | some (.own id)=>some id
  | _=>none
 match op with
 | .load _ x=>of x
 | .indexAddr _ x _=>of x
 | .call { callee:=.builtin .len,args:=⟨[x]⟩,argTypes:=_ }=>of x
 | _=>none
theorem Az {u:V} (hid:PD (bt (looks ops o) env) o.op=some id:=by rfl) (an:aM heap id=some B:=by rfl) (hq:vz P [] ⟨bt (looks ops o) env,[(id,some B)],0,af⟩ o.op=some v:=by rfl) (av:b1 (bt (looks ops o) env) ops o.guard=some true:=by rfl) (hv:iG v u:=by first|(apply iG.agg;repeat' first|exact Norm.nil|apply Norm.cons)|(apply iG.fk;repeat' first|exact Norm.nil|apply Norm.cons)|exact iG.same) (hd:o.dst=some d:=by rfl) (aN:Nat.blt d af=true:=by rfl) (ag:k+1=bn:=by(simp only[Nat.reduceAdd];rfl)) (hb:Nat.ble aA k=true:=by rfl) (ak:jQ ops W aA (k - aA) id=true:=by kernel_rfl) (h:bf P af aA ops W bn rest ((d,u) :: env) heap Q):bf P af aA ops W k (o :: rest) env heap Q:=
 Gn av hd aN hb ag an ak (fun N=>by rw[<- hv.eq];exact I5 (st:=⟨bt (looks ops o) env,[(id,some B)],N,af⟩) (by exact hq)) h
theorem AA (hq:DY (bt (looks ops o) env) o.op=some p:=by rfl) (av:b1 (bt (looks ops o) env) ops o.guard=some true:=by rfl) (hd:o.dst=some d:=by rfl) (aN:Nat.blt d af=true:=by rfl) (ag:k+1=bn:=by(simp only[Nat.reduceAdd];rfl)) (hb:Nat.ble aA k=true:=by rfl) (ht:p->bf P af aA ops W bn rest ((d,ab true) :: env) heap Q) (hf:¬ p->bf P af aA ops W bn rest ((d,ab false) :: env) heap Q):bf P af aA ops W k (o :: rest) env heap Q:=by
 by_cases ar:p
 ·exact jc av hd aN hb ag (fun N=>(DZ (st:=⟨bt (looks ops o) env,[],N,af⟩) hq).1 ar) (ht ar)
 ·exact jc av hd aN hb ag (fun N=>(DZ (st:=⟨bt (looks ops o) env,[],N,af⟩) hq).2 ar) (hf ar)
theorem AB {cF:IntKind} {r:Int} (hq:D0 (bt (looks ops o) env) P o.op=some (cF,r):=by rfl) (av:b1 (bt (looks ops o) env) ops o.guard=some true:=by rfl) (hr:cF.wrap r=r:=by first|(rw[IntKind.wrap_i64];omega)|(rw[IntKind.wrap_u64];omega)|(rw[IntKind.wrap_u8];omega)) (hd:o.dst=some d:=by rfl) (aN:Nat.blt d af=true:=by rfl) (ag:k+1=bn:=by(simp only[Nat.reduceAdd];rfl)) (hb:Nat.ble aA k=true:=by rfl) (h:bf P af aA ops W bn rest ((d,.lit (.int cF r)) :: env) heap Q):bf P af aA ops W k (o :: rest) env heap Q:=
 jc av hd aN hb ag (fun N=>by have:=Pl (st:=⟨bt (looks ops o) env,[],N,af⟩) (P:=P) (G:=[]) hq;rw[hr] at this;exact this) h
theorem AD {e:TypeId} (ae:o.op = .call { callee:=.builtin .len,args:=#[x],argTypes:=#[t] }:=by rfl) (U:aJ (bt (looks ops o) env) x=some (.ro l):=by rfl) (ht:P.underlying t=some (.slice e):=by rfl) (hn:l.length=n:=by first|exact bY _|(simp only[bY,eE,eb,fg,e1];rfl)|rfl) (av:b1 (bt (looks ops o) env) ops o.guard=some true:=by rfl) (hd:o.dst=some d:=by rfl) (aN:Nat.blt d af=true:=by rfl) (ag:k+1=bn:=by(simp only[Nat.reduceAdd];rfl)) (hb:Nat.ble aA k=true:=by rfl) (h:bf P af aA ops W bn rest ((d,I n) :: env) heap Q):bf P af aA ops W k (o :: rest) env heap Q:=by
 subst hn;refine jc av hd aN hb ag (fun N=>I4 (P:=P) ae U ?_) h;unfold Aa;rw[ht]
theorem rQ {u:V} (av:b1 (bt (looks ops o) env) ops o.guard=some true:=by rfl) (hd:o.dst=some d:=by rfl) (aN:Nat.blt d af=true:=by rfl) (ag:k+1=bn:=by(simp only[Nat.reduceAdd];rfl)) (hb:Nat.ble aA k=true:=by rfl) (hq:∀ N,bu P [] o ⟨bt (looks ops o) env,[],N,af⟩ v:=by
   intro N
   first
    | exact vm rfl rfl rfl D1 xF rfl rfl rfl (gV _ (by omega))
    | exact Ir rfl rfl rfl (by omega)
    | exact Is rfl rfl rfl (by omega)
    | exact DF rfl rfl rfl (by omega)
    | exact DG rfl rfl rfl (by omega)
    | exact CA rfl rfl rfl rfl (by omega) rfl
    | exact OO rfl rfl rfl rfl rfl (by omega) rfl
    | exact DH rfl rfl rfl (by omega)) (hv:iG v u:=by first|(apply iG.agg;repeat' first|exact Norm.nil|apply Norm.cons)|(apply iG.fk;repeat' first|exact Norm.nil|apply Norm.cons)|exact iG.same) (h:bf P af aA ops W bn rest ((d,u) :: env) heap Q):bf P af aA ops W k (o :: rest) env heap Q:=jc av hd aN hb ag (fun N=>by rw[<- hv.eq];exact hq N) h
theorem da {u:V} (hid:PD (bt (looks ops o) env) o.op=some id:=by rfl) (an:aM heap id=some B:=by rfl) (av:b1 (bt (looks ops o) env) ops o.guard=some true:=by rfl) (hd:o.dst=some d:=by rfl) (aN:Nat.blt d af=true:=by rfl) (ag:k+1=bn:=by(simp only[Nat.reduceAdd];rfl)) (hb:Nat.ble aA k=true:=by rfl) (ak:jQ ops W aA (k - aA) id=true:=by kernel_rfl) (hq:∀ N,bu P [] o ⟨bt (looks ops o) env,[(id,some B)],N,af⟩ v:=by
   intro N
   first
    | exact Ci rfl rfl rfl rfl D1 Pm rfl rfl
    | exact ei rfl rfl rfl (pw rfl xF rfl (gV _ (by omega))) rfl
    | exact ep rfl rfl rfl rfl (pw rfl xF rfl (gV _ (by omega))) (bM rfl)) (hv:iG v u:=by first|(apply iG.agg;repeat' first|exact Norm.nil|apply Norm.cons)|(apply iG.fk;repeat' first|exact Norm.nil|apply Norm.cons)|exact iG.same) (h:bf P af aA ops W bn rest ((d,u) :: env) heap Q):bf P af aA ops W k (o :: rest) env heap Q:=Gn av hd aN hb ag an ak (fun N=>by rw[<- hv.eq];exact hq N) h
theorem Jd (hf:Fn P f cP r) (ae:o.op = .call { callee:=.value (.func f),args:=xs,argTypes:=ts }:=by rfl) (av:b1 (bt (looks ops o) env) ops o.guard=some true:=by rfl) (hd:o.dst=some d:=by rfl) (aN:Nat.blt d af=true:=by rfl) (U : h3 (bt (looks ops o) env) xs.toList = some vs := by rfl) (ry : lM.l9 0 vs = true := by rfl) (hw : ez vs cP := by ((repeat' (first | exact ez.nil | refine ez.cons ?_ ?_ | exact dt.refl _ | exact dt.nil | refine dt.agg ?_ | refine dt.bN ?_)); first | done | fail "args")) (ag : k + 1 = bn := by (simp only [Nat.reduceAdd]; rfl)) (hb : Nat.ble aA k = true := by rfl) (h : bf P af aA ops W bn rest ((d, r) :: env) heap Q) : bf P af aA ops W k (o :: rest) env heap Q := by
 subst ag;refine oo (s:=⟨r,[]⟩) (fun N _ _=>⟨bt (looks ops o) env,[],fun t x h=>nI h,fun id B h=>(by cases h),fun id h=>(sI h).elim,vD av (fun fW cB ax hH=>?_)⟩) ?_ hb
 ·have:=Pb (P:=P) (n0:=N) (st:=⟨fW,cB,N,af⟩) ae o7 (Au ax U) ry (Pd hf hw);rw[hd] at this ⊢;exact this
 ·rw[hd];exact h
theorem PE {b:Bool} (hf:Fn P f cP (ab b)) (ae:o.op = .call { callee:=.value (.func f),args:=xs,argTypes:=ts }:=by rfl) (av:b1 (bt (looks ops o) env) ops o.guard=some true:=by rfl) (hd:o.dst=some d:=by rfl) (aN:Nat.blt d af=true:=by rfl) (U : h3 (bt (looks ops o) env) xs.toList = some vs := by rfl) (ry : lM.l9 0 vs = true := by rfl) (hw : ez vs cP := by ((repeat' (first | exact ez.nil | refine ez.cons ?_ ?_ | exact dt.refl _ | exact dt.nil | refine dt.agg ?_ | refine dt.bN ?_)); first | done | fail "args")) (ag : k + 1 = bn := by (simp only [Nat.reduceAdd]; rfl)) (hb : Nat.ble aA k = true := by rfl) (ht : b = true -> bf P af aA ops W bn rest ((d, ab true) :: env) heap Q) (hff : b = false -> bf P af aA ops W bn rest ((d, ab false) :: env) heap Q) : bf P af aA ops W k (o :: rest) env heap Q := by
 cases b
 ·exact Jd hf ae av hd aN U ry hw ag hb (hff rfl)
 ·exact Jd hf ae av hd aN U ry hw ag hb (ht rfl)
theorem h5 [Decidable p] (hf:Fn P f cP (ab (decide p))) (ae:o.op = .call { callee:=.value (.func f),args:=xs,argTypes:=ts }:=by rfl) (av:b1 (bt (looks ops o) env) ops o.guard=some true:=by rfl) (hd:o.dst=some d:=by rfl) (aN:Nat.blt d af=true:=by rfl) (U : h3 (bt (looks ops o) env) xs.toList = some vs := by rfl) (ry : lM.l9 0 vs = true := by rfl) (hw : ez vs cP := by ((repeat' (first | exact ez.nil | refine ez.cons ?_ ?_ | exact dt.refl _ | exact dt.nil | refine dt.agg ?_ | refine dt.bN ?_)); first | done | fail "args")) (ag : k + 1 = bn := by (simp only [Nat.reduceAdd]; rfl)) (hb : Nat.ble aA k = true := by rfl) (ht : p -> bf P af aA ops W bn rest ((d, ab true) :: env) heap Q) (hff : ¬ p -> bf P af aA ops W bn rest ((d, ab false) :: env) heap Q) : bf P af aA ops W k (o :: rest) env heap Q :=
 PE hf ae av hd aN U ry hw ag hb (fun h=>ht (of_decide_eq_true h)) (fun h=>hff (of_decide_eq_false h))
theorem h4 {next:Nat} {vs:List V} [Decidable p] (hf:Fn P f cP (ab (decide p))) (ae:o.op = .call { callee:=.value (.func f),args:=xs,argTypes:=ts }:=by rfl) (av:b1 env ops o.guard=some true:=by rfl) (hd:o.dst=some d:=by rfl) (aN:Nat.blt d af=true:=by rfl) (U : h3 env xs.toList = some vs := by rfl) (hb : lM.l9 0 vs = true := by rfl) (hw : ez vs cP := by ((repeat' (first | exact ez.nil | refine ez.cons ?_ ?_ | exact dt.refl _ | exact dt.nil | refine dt.agg ?_ | refine dt.bN ?_)); first | done | fail "args")) (ht : p -> a6 P n0 ops.toArray rest ⟨(d, ab true) :: env, heap, next, af⟩ Q) (hff : ¬ p -> a6 P n0 ops.toArray rest ⟨(d, ab false) :: env, heap, next, af⟩ Q) : a6 P n0 ops.toArray (o :: rest) ⟨env, heap, next, af⟩ Q :=
 Pn hf ae av hd aN U hb hw (fun h=>ht (of_decide_eq_true h)) (fun h=>hff (of_decide_eq_false h))
theorem Xs (hf:Fn P f cP r) (ae:o.op = .call { callee:=.value (.func f),args:=xs,argTypes:=ts }:=by rfl) (av:b1 (bt (looks ops o) env) ops o.guard=some true:=by rfl) (hd:o.dst=some d:=by rfl) (aN:Nat.blt d af=true:=by rfl) (U:h3 (bt (looks ops o) env) xs.toList=some vs:=by rfl) (an:aM heap id=some B:=by rfl) (aw:ih.o6 [(id,some B)] vs=some cP:=by rfl) (hr:rr r=true:=by rfl) (ag:k+1=bn:=by(simp only[Nat.reduceAdd];rfl)) (hb:Nat.ble aA k=true:=by rfl) (ak:jQ ops W aA (k - aA) id=true:=by kernel_rfl) (h:bf P af aA ops W bn rest ((d,r) :: env) heap Q):bf P af aA ops W k (o :: rest) env heap Q:=by
 subst ag;refine oo (s:=⟨r,[]⟩) (fun N _ _=>⟨bt (looks ops o) env,[(id,some B)],fun t x h=>nI h,fun dk bd c6=>?_,fun id h=>(sI h).elim,vD av (fun fW cB ax hH=>?_)⟩) ?_ hb
 ·rw[cl] at c6;split at c6
  ·rename_i e;subst e;injection c6 with c6;subst c6;exact⟨ak,an⟩
  ·cases c6
 ·have:=Pc (P:=P) (n0:=N) (st:=⟨fW,cB,N,af⟩) ae o7 (Au ax U) (Ee hH _ aw) hf hr;rw[hd] at this ⊢;exact this
 ·rw[hd];exact h
theorem rz {k:Nat} {B:Option aT} (h:lq [(k,B)] id=true):id=k:=by
 simp only[lq,Bool.or_false] at h;exact(iF h).symm
theorem AE {cs:List V} (ae:o.op = .alloc T:=by rfl) (av:b1 (bt (looks ops o) env) ops o.guard=some true:=by rfl) (hd:o.dst=some d:=by rfl) (aN:Nat.blt d af=true:=by rfl) (aU:gZ P T=some cs:=by rfl) (hv:Norm cs ds:=by repeat' first|exact Norm.nil|apply Norm.cons) (ag:k+1=bn:=by(simp only[Nat.reduceAdd];rfl)) (hb:Nat.ble aA k=true:=by rfl) (h:bf P af aA ops W bn rest ((d,.ptr k 0 0 0) :: env) ((k,some (.box T ds)) :: heap) Q):bf P af aA ops W k (o :: rest) env heap Q:=by
 subst ag;have e:=hv.eq;subst e;refine oo (s:=⟨.ptr k 0 0 0,[(k,some (.box T cs))]⟩) (fun N J aa=>⟨bt (looks ops o) env,[],fun t x h=>nI h,fun id B h=>(by cases h),fun id h=>.inl (by rw[rz h];omega),?_⟩) ?_ hb
 ·rw[show aA+(k - aA)=k by omega];refine Jb av aa (fun fW cB ax hH=>?_);have:=OX (P:=P) (k:=k) (st:=⟨fW,cB,N,af⟩) ae hd aN aU;rw[hd];exact this
 ·rw[hd];exact h
theorem AF {cs:List V} (ae:o.op = .box T x:=by rfl) (av:b1 (bt (looks ops o) env) ops o.guard=some true:=by rfl) (hd:o.dst=some d:=by rfl) (aN:Nat.blt d af=true:=by rfl) (U:aJ (bt (looks ops o) env) x=some v:=by rfl) (hf:flat v=some cs:=by rfl) (hv:Norm cs ds:=by repeat' first|exact Norm.nil|apply Norm.cons) (ag:k+1=bn:=by(simp only[Nat.reduceAdd];rfl)) (hb:Nat.ble aA k=true:=by rfl) (h:bf P af aA ops W bn rest ((d,.ptr k 0 0 0) :: env) ((k,some (.box T ds)) :: heap) Q):bf P af aA ops W k (o :: rest) env heap Q:=by
 subst ag;have e:=hv.eq;subst e;refine oo (s:=⟨.ptr k 0 0 0,[(k,some (.box T cs))]⟩) (fun N J aa=>⟨bt (looks ops o) env,[],fun t x h=>nI h,fun id B h=>(by cases h),fun id h=>.inl (by rw[rz h];omega),?_⟩) ?_ hb
 ·rw[show aA+(k - aA)=k by omega];refine Jb av aa (fun fW cB ax hH=>?_);have:=OY (P:=P) (k:=k) (st:=⟨fW,cB,N,af⟩) ae hd aN (kB ax U) hf;rw[hd];exact this
 ·rw[hd];exact h
theorem AG {t:Nat} (ae:o.op = .store T x y:=by rfl) (av:b1 (bt (looks ops o) env) ops o.guard=some true:=by rfl) (hd:o.dst=none:=by rfl) (U:aJ (bt (looks ops o) env) x=some (.ptr id 0 s j):=by rfl) (hh:aM heap id=some (.box t cs):=by rfl) (aj:aJ (bt (looks ops o) env) y=some v:=by rfl) (hf:flat v=some vs:=by rfl) (aY:dr P T=some vs.length:=by rfl) (ao:Nat.ble (j+vs.length) cs.length=true:=by rfl) (hv:Norm (setAt j vs cs) ds:=by repeat' first|exact Norm.nil|apply Norm.cons) (ag:k+1=bn:=by(simp only[Nat.reduceAdd];rfl)) (hb:Nat.ble aA k=true:=by rfl) (kx:W (k - aA) id=true:=by rfl) (ak:jQ ops W aA (k - aA) id=true:=by kernel_rfl) (h:bf P af aA ops W bn rest env ((id,some (.box t ds)) :: heap) Q):bf P af aA ops W k (o :: rest) env heap Q:=by
 subst ag;have e:=hv.eq;subst e;refine oo (s:=⟨.gN,[(id,some (.box t (setAt j vs cs)))]⟩) (fun N J aa=>⟨bt (looks ops o) env,[(id,some (.box t cs))],fun t x h=>nI h,fun dk bd c6=>?_,fun dk h=>.inr ?_,?_⟩) ?_ hb
 ·rw[cl] at c6;split at c6
  ·rename_i e;subst e;injection c6 with c6;subst c6;exact⟨ak,hh⟩
  ·cases c6
 ·rw[rz h,ae];exact⟨kx,rfl,ak⟩
 ·refine vD av (fun fW cB ax hH=>?_);have:=OZ (P:=P) (n0:=N) (st:=⟨fW,cB,N,af⟩) ae hd (kB ax U) (hH id (.box t cs) (by simp[aM])) (kB ax aj) hf aY ao;rw[hd];exact this
 ·rw[hd];exact h
end
end
end Go.Proofs.YtendheafcbickaaGreat
