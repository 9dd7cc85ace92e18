
import Derived.Handy
import Derived.Lib.Hide
import Derived.IntWalk
import Derived.Laws.IdiomStrings
import Derived.Orders
import Derived.Below
import Derived.Deep.LoopGhost
import Derived.Laws.Tables
import Derived.Great.BuildSlice
import Derived.Laws.OwnMore
import Derived.Laws.BytesString
import Derived.Deep.OwnRows
import Derived.Lib.AppendStr
import Derived.Laws.IdiomRangeMap
set_option linter.unusedVariables false
set_option linter.unusedSimpArgs false
section
namespace Go.Proofs.YtendheafcbickaaGreat
open Go.RowKit
inductive V where
  | lit (v:Value)
  | ro (l:List (List V))
  | own (id:Nat)
  | ptr (id i s j:Nat)
  | rp (cs:List V)
  | agg (cs:List V)
  | tup (vs:List V)
  | clo (f:FuncId) (cs:List V)
  | any
  | und
abbrev dV:V:=.lit undef
def cAt (l:List V) (j:Nat):V:=l.getD j dV
def eAt (l:List (List V)) (i:Nat):List V:=l.getD i []
def keyOk (q:Option IntKind) (v:Value):Bool:=match q,v with
  | some q,.int k _=>decide (k=q)
  | none,.string _=>true
  | _,_=>false
inductive Blk where
  | box (t:TypeId) (cs:List V)
  | row (e:TypeId) (s:Nat) (l:List (List V))
  | fro (l:List (List V))
  | map (q:Option IntKind) (es:List (Value×Value))
  | obj (o:Obj)
  | rox (e:TypeId) (s:Nat) (l:List (List V))
  | fmap (q:Option IntKind) (es:List (Value×Value))
  | iter (left:List (Value×Value)) (cur:Option (Value×Value))
  | brow (e:TypeId) (l:List UInt8)
def Blk.owns:Blk→Bool
  | .fro _=>false
  | .fmap _ _=>false
  | _=>true
structure St where
  env:List (Nat×V)
  heap:List (Nat×Option Blk)
  next:Nat
  nt:Nat
def getE:List (Nat×V)→Nat→Option V
  | [],_=>none
  | (t,v) :: r,s=>bif Nat.beq t s then some v else getE r s
def getH:List (Nat×Option Blk)→Nat→Option Blk
  | [],_=>none
  | (t,v) :: r,s=>bif Nat.beq t s then v else getH r s
def blockOf:Value→Option Nat
  | .slice (some a) _ _=>some a.block
  | .pointer (some a)=>some a.block
  | .map (some b)=>some b
  | _=>none
inductive PRel (S:Nat→Prop) (w:World):V→Value→Prop
  | lit (v:Value) (h:v.oneCell' = true):PRel S w (.lit v) v
  | ro (l:List (List V)) (A:Option Addr) (c s b off:Nat) (us:Nat→Nat→Value) (hc:l.length≤c) (hm:c≤maxLen)
      (hp:0<s) (hA:0<l.length→A=some ⟨b,off,none⟩∧S b) (hs:∀ i,i<l.length→(eAt l i).length=s)
      (hcell:∀ i j,i<l.length→j<s→w.cell? ⟨b,off+i * s+j,none⟩=some (us i j))
      (hrel:∀ i j,i<l.length→j<s→PRel S w (cAt (eAt l i) j) (us i j)):PRel S w (.ro l) (.slice A l.length c)
inductive VRel (ρ:Nat→Option Value) (S:Nat→Prop) (w:World):V→Value→Prop
  | pure {v:V} {u:Value} (h:PRel S w v u):VRel ρ S w v u
  | own {id:Nat} {u:Value} (h:ρ id=some u):VRel ρ S w (.own id) u
  | ptr {id i s j b:Nat} {u:Value} (h:ρ id=some u) (hb:blockOf u=some b):VRel ρ S w (.ptr id i s j) (.pointer (some ⟨b,i * s+j,none⟩))
  | rp {cs:List V} {b off:Nat} (us:Nat→Value) (hS:0<cs.length→S b) (hcell:∀ j,j<cs.length→w.cell? ⟨b,off+j,none⟩=some (us j))
      (hrel:∀ j,j<cs.length→PRel S w (cAt cs j) (us j)):VRel ρ S w (.rp cs) (.pointer (some ⟨b,off,none⟩))
  | agg {cs:List V} {us:Array Value} (hn:us.size=cs.length) (h:∀ j,j<cs.length→VRel ρ S w (cAt cs j) (us.getD j undef)):VRel ρ S w (.agg cs) (.agg us)
  | tup {cs:List V} {us:Array Value} (hn:us.size=cs.length) (h:∀ j,j<cs.length→VRel ρ S w (cAt cs j) (us.getD j undef)):VRel ρ S w (.tup cs) (.tuple us)
  | clo {f:FuncId} {cs:List V} {us:Array Value} (hn:us.size=cs.length) (h:∀ j,j<cs.length→VRel ρ S w (cAt cs j) (us.getD j undef)):VRel ρ S w (.clo f cs) (.func (.func f) #[] us)
  | any (u:Value):VRel ρ S w .any u
  | und:VRel ρ S w .und undef
def Same (S:Nat→Prop) (w w':World):Prop:=∀ b,S b→b<w.heap.size→w'.heap[b]? = w.heap[b]?
theorem cell_lt {w:World} {b o:Nat} {u:Value} (h:w.cell? ⟨b,o,none⟩=some u):b<w.heap.size:=World.block_lt_of_cell? w _ h
theorem Same.cell {S:Nat→Prop} {w w':World} (h:Same S w w') {b o:Nat} {u:Value} (hS:S b) (hc:w.cell? ⟨b,o,none⟩=some u):w'.cell? ⟨b,o,none⟩=some u:=by
  have:=h b hS (cell_lt hc)
  rw [← hc]
  simp [World.cell?,this]
theorem Same.refl (S:Nat→Prop) (w:World):Same S w w:=fun _ _ _=>rfl
theorem PRel.mono {S S':Nat→Prop} {w w':World} {v:V} {u:Value} (h:PRel S w v u) (hw:Same S w w') (hS:∀ b,S b→b<w.heap.size→S' b):PRel S' w' v u:=by
  induction h with
  | lit v h=>exact .lit v h
  | ro l A c s b off us hc hm hp hA hs hcell hrel ih=>
    by_cases h0:0<l.length
    · have hlt:=cell_lt (hcell 0 0 h0 hp)
      exact .ro l A c s b off us hc hm hp (fun _=>⟨(hA h0).1,hS b (hA h0).2 hlt⟩) hs (fun i j hi hj=>hw.cell (hA h0).2 (hcell i j hi hj)) ih
    · exact .ro l A c s b off us hc hm hp (fun h=>absurd h h0) hs (fun i j hi=>by omega) (fun i j hi=>by omega)
theorem VRel.mono {ρ ρ':Nat→Option Value} {S S':Nat→Prop} {w w':World} {v:V} {u:Value} (h:VRel ρ S w v u) (hw:Same S w w')
    (hS:∀ b,S b→b<w.heap.size→S' b) (hρ:∀ id u,ρ id=some u→ρ' id=some u):VRel ρ' S' w' v u:=by
  induction h with
  | pure h=>exact .pure (h.mono hw hS)
  | own h=>exact .own (hρ _ _ h)
  | ptr h hb=>exact .ptr (hρ _ _ h) hb
  | @rp cs b off us hSb hcell hrel=>
    refine .rp us (fun h0=>hS b (hSb h0) (cell_lt (hcell 0 h0))) (fun j hj=>hw.cell (hSb (by omega)) (hcell j hj)) (fun j hj=>(hrel j hj).mono hw hS)
  | agg hn h ih=>exact .agg hn ih
  | tup hn h ih=>exact .tup hn ih
  | clo hn h ih=>exact .clo hn ih
  | any u=>exact .any u
  | und=>exact .und
def Stab (F:Nat→Prop) (ρ:Nat→Option Value) (heap:List (Nat×Option Blk)) (b:Nat):Prop:=
  F b ∧ ∀ id B u,getH heap id=some B→B.owns=true→ρ id=some u→blockOf u≠some b
def Births (mes:Array MapEntry) (clock:Nat):Prop:=(mes.toList.map (·.born)).Nodup ∧ ∀ e ∈ mes.toList,e.born<clock
abbrev kvE (e:MapEntry):Value×Value:=(e.key,e.val)
def BRel (base:Nat→Prop) (ρ:Nat→Option Value) (S:Nat→Prop) (w:World) (id:Nat):Blk→Prop
  | .box t cs=>∃ b us,ρ id=some (.pointer (some ⟨b,0,none⟩))∧base b∧w.heap[b]? = some (.cells us t (0,0))∧us.size=cs.length ∧
      ∀ j,j<cs.length→VRel ρ S w (cAt cs j) (us.getD j undef)∧(us.getD j undef).oneCell' = true
  | .row e s l=>0<s ∧ ∃ v xs,ρ id=some v∧(w.ownsRow 0 e s v l.length xs ∧ ∀ b,blockOf v=some b→base b)∧(∀ i,i<l.length→(eAt l i).length=s) ∧
      ∀ i j,i<l.length→j<s → ∃ u,xs[i * s+j]? = some u∧PRel S w (cAt (eAt l i) j) u∧u.oneCell' = true
  | .fro l=>∃ v,ρ id=some v∧PRel S w (.ro l) v ∧ ∀ a n c,v = .slice (some a) n c→a.off=0
  | .map q es=>∃ b mes clock,ρ id=some (.map (some b))∧base b∧w.heap[b]? = some (.map mes clock)∧mes.toList.map (fun e=>(e.key,e.val))=es∧(∀ p,p ∈ es→keyOk q p.1=true∧p.2.oneCell' = true)∧Births mes clock
  | .obj o=>∃ b,ρ id=some (.pointer (some ⟨b,0,none⟩))∧base b∧w.heap[b]? = some o
  | .brow e l=>∃ b cap cur fz,ρ id=some (.slice (some ⟨b,0,none⟩) l.length cap)∧base b∧w.heap[b]? = some (.cells cur e fz)∧(l.length≤cap∧cap≤maxLen∧cap≤cur.size)∧(∀ j,j<cap → ¬ (fz.1≤j∧j<fz.2))∧(∀ j,j<l.length→cur.getD j undef = .int .u8 ((l.getD j default).toNat:Int))
  | .rox e s l=>0<s ∧ ∃ v xs,ρ id=some v∧(w.ownsRow 0 e s v l.length xs ∧ ∀ b,blockOf v=some b→base b)∧(∀ i,i<l.length→(eAt l i).length=s) ∧
      ∀ i j,i<l.length→j<s → ∃ u,xs[i * s+j]? = some u∧VRel ρ S w (cAt (eAt l i) j) u∧u.oneCell' = true
  | .fmap q es=>∃ b mes clock,ρ id=some (.map (some b))∧S b∧w.heap[b]? = some (.map mes clock)∧mes.toList.map kvE=es∧(∀ p,p ∈ es→keyOk q p.1=true∧p.2.oneCell' = true)∧Births mes clock
  | .iter left cur=>∃ r b mes clock since seen c0,ρ id=some (.pointer (some ⟨r,0,none⟩))∧base r∧w.heap[r]? = some (.mapIter (some b) since seen c0)∧S b∧w.heap[b]? = some (.map mes clock) ∧
      (Births mes clock∧(∀ e ∈ mes.toList,e.born<since)∧since≤c0∧since≤clock∧(leftOf mes seen).toList.map kvE=left∧(∀ e ∈ mes.toList,e.key.oneCell' = true∧e.val.oneCell' = true) ∧
      ∀ kv,cur=some kv→c0=clock ∧ ∃ (seen':Array Nat) (e:MapEntry),seen=seen'.push e.born∧e ∈ mes.toList∧kvE e=kv)
theorem BRel.mono {base:Nat→Prop} {ρ ρ':Nat→Option Value} {S S':Nat→Prop} {w w':World} {id:Nat} {B:Blk} (h:BRel base ρ S w id B) (hw:Same S w w')
    (hS:∀ b,S b→b<w.heap.size→S' b) (hρ:∀ id u,ρ id=some u→ρ' id=some u) (hblk:B.owns=true → ∀ u b,ρ id=some u→blockOf u=some b→b<w.heap.size→w'.heap[b]? = w.heap[b]?):BRel base ρ' S' w' id B:=by
  cases B with
  | box t cs=>
    obtain ⟨b,us,h1,h2,h3,h4,h5⟩:=h
    have hlt:=(Array.getElem?_eq_some_iff.1 h3).1
    exact ⟨b,us,hρ _ _ h1,h2,by rw [hblk rfl _ b h1 rfl hlt];exact h3,h4,fun j hj=>⟨(h5 j hj).1.mono hw hS hρ,(h5 j hj).2⟩⟩
  | row e s l=>
    obtain ⟨h0,v,xs,h1,h2,h3,h4⟩:=h
    refine ⟨h0,v,xs,hρ _ _ h1,⟨⟨h2.1.1,?_⟩,h2.2⟩,h3,fun i j hi hj=>?_⟩
    · rcases h2.1.2 with hn | ⟨g,cap,cur,rfl,hb,hg,rest⟩
      · exact .inl hn
      · exact .inr ⟨g,cap,cur,rfl,hb,by rw [hblk rfl _ g h1 rfl (Array.getElem?_eq_some_iff.1 hg).1];exact hg,rest⟩
    · obtain ⟨u,hu,hp,ho⟩:=h4 i j hi hj
      exact ⟨u,hu,hp.mono hw hS,ho⟩
  | fro l=>
    obtain ⟨v,h1,h2,h3⟩:=h
    exact ⟨v,hρ _ _ h1,h2.mono hw hS,h3⟩
  | map q es=>
    obtain ⟨b,mes,clock,h1,h2,h3,h4⟩:=h
    exact ⟨b,mes,clock,hρ _ _ h1,h2,by rw [hblk rfl _ b h1 rfl (Array.getElem?_eq_some_iff.1 h3).1];exact h3,h4⟩
  | obj o=>
    obtain ⟨b,h1,h2,h3⟩:=h
    exact ⟨b,hρ _ _ h1,h2,by rw [hblk rfl _ b h1 rfl (Array.getElem?_eq_some_iff.1 h3).1];exact h3⟩
  | brow be bl=>
    obtain ⟨b,cap,cur,fz,h1,h2,h3,h4⟩:=h
    exact ⟨b,cap,cur,fz,hρ _ _ h1,h2,by rw [hblk rfl _ b h1 rfl (Array.getElem?_eq_some_iff.1 h3).1];exact h3,h4⟩
  | rox e s l=>
    obtain ⟨h0,v,xs,h1,h2,h3,h4⟩:=h
    refine ⟨h0,v,xs,hρ _ _ h1,⟨⟨h2.1.1,?_⟩,h2.2⟩,h3,fun i j hi hj=>?_⟩
    · rcases h2.1.2 with hn | ⟨g,cap,cur,rfl,hb,hg,rest⟩
      · exact .inl hn
      · exact .inr ⟨g,cap,cur,rfl,hb,by rw [hblk rfl _ g h1 rfl (Array.getElem?_eq_some_iff.1 hg).1];exact hg,rest⟩
    · obtain ⟨u,hu,hp,ho⟩:=h4 i j hi hj
      exact ⟨u,hu,hp.mono hw hS hρ,ho⟩
  | fmap q es=>
    obtain ⟨b,mes,clock,h1,h2,h3,h4⟩:=h
    have hlt:=(Array.getElem?_eq_some_iff.1 h3).1
    exact ⟨b,mes,clock,hρ _ _ h1,hS b h2 hlt,by rw [hw b h2 hlt];exact h3,h4⟩
  | iter left cur=>
    obtain ⟨r,b,mes,clock,since,seen,c0,h1,h2,h3,h4,h5,h6⟩:=h
    have hlt:=(Array.getElem?_eq_some_iff.1 h5).1
    exact ⟨r,b,mes,clock,since,seen,c0,hρ _ _ h1,h2,by rw [hblk rfl _ r h1 rfl (Array.getElem?_eq_some_iff.1 h3).1];exact h3,hS b h4 hlt,by rw [hw b h4 hlt];exact h5,h6⟩
structure Frm (base:Nat→Prop) (w w':World):Prop where
  os:w'.os=w.os
  tape:w'.tape=w.tape
  output:w'.output=w.output
  size:w.heap.size≤w'.heap.size
  block:∀ k,k<w.heap.size → ¬ base k→w'.heap[k]? = w.heap[k]?
theorem Frm.refl (base:Nat→Prop) (w:World):Frm base w w:=⟨rfl,rfl,rfl,Nat.le_refl _,fun _ _ _=>rfl⟩
theorem Frm.trans {base:Nat→Prop} {a b c:World} (h:Frm base a b) (k:Frm base b c):Frm base a c:=
  ⟨k.os.trans h.os,k.tape.trans h.tape,k.output.trans h.output,Nat.le_trans h.size k.size,fun i hi hb=>(k.block i (Nat.lt_of_lt_of_le hi h.size) hb).trans (h.block i hi hb)⟩
theorem Frm.of_below {base:Nat→Prop} {w w':World} (h:Below w.heap.size w w'):Frm base w w':=⟨h.os,h.tape,h.output,h.size,fun k hk _=>h.block k hk⟩
theorem Frm.to_below {w w':World} (h:Frm (fun b=>w.heap.size≤b) w w'):Below w.heap.size w w':=⟨h.os,h.tape,h.output,h.size,fun k hk=>h.block k hk (by omega)⟩
structure HRel0 (F:Nat→Prop) (base:Nat→Prop) (ρ:Nat→Option Value) (heap:List (Nat×Option Blk)) (next:Nat) (w0 w:World):Prop where
  below:Frm base w0 w
  hbase:∀ b,w.heap.size≤b→base b
  sup:∀ id u,ρ id=some u→id<next∧u.oneCell' = true
  inj:∀ id id' B B' u u' b,getH heap id=some B→getH heap id' = some B' → B.owns=true→B'.owns=true→ρ id=some u→ρ id' = some u' → blockOf u=some b→blockOf u' = some b→id=id'
  blk:∀ id B,getH heap id=some B→BRel base ρ (Stab F ρ heap) w id B
structure HRel (F:Nat→Prop) (base:Nat→Prop) (ρ:Nat→Option Value) (heap:List (Nat×Option Blk)) (next:Nat) (w0 w:World):Prop extends HRel0 F base ρ heap next w0 w where
  hF:∀ b,base b→F b
structure ERel (ρ:Nat→Option Value) (S:Nat→Prop) (w:World) (nt:Nat) (env:List (Nat×V)) (a:Act):Prop where
  size:a.tmps.size=nt
  defers:a.defers=[]
  slot:∀ t v,getE env t=some v→VRel ρ S w v (a.tmps.getD t undef)
theorem HRel0.owned {F:Nat→Prop} {base:Nat→Prop} {ρ:Nat→Option Value} {heap:List (Nat×Option Blk)} {next:Nat} {w0 w:World} (h:HRel0 F base ρ heap next w0 w) {id b:Nat} {B:Blk} {u:Value}
    (hB:getH heap id=some B) (ho:B.owns=true) (hu:ρ id=some u) (hb:blockOf u=some b):base b∧b<w.heap.size:=by
  have:=h.blk id B hB
  cases B with
  | box t cs=>
    obtain ⟨b',us,h1,h2,h3,_⟩:=this
    rw [hu] at h1;cases h1
    simp only [blockOf,Option.some.injEq] at hb
    subst hb
    exact ⟨h2,(Array.getElem?_eq_some_iff.1 h3).1⟩
  | row e s l=>
    obtain ⟨h0,v,xs,h1,h2,_⟩:=this
    rw [hu] at h1;cases h1
    refine ⟨h2.2 b hb,(h2.1.lt b ?_).2⟩
    rcases h2.1.2 with ⟨rfl,_⟩ | ⟨g,_,_,rfl,_⟩
    · simp [blockOf] at hb
    · simpa [blockOf,Value.ownBlock] using hb
  | fro l=>cases ho
  | map q es=>
    obtain ⟨b',mes,clock,h1,h2,h3,_⟩:=this
    rw [hu] at h1;cases h1
    simp only [blockOf,Option.some.injEq] at hb
    subst hb
    exact ⟨h2,(Array.getElem?_eq_some_iff.1 h3).1⟩
  | obj o=>
    obtain ⟨b',h1,h2,h3⟩:=this
    rw [hu] at h1;cases h1
    simp only [blockOf,Option.some.injEq] at hb
    subst hb
    exact ⟨h2,(Array.getElem?_eq_some_iff.1 h3).1⟩
  | brow be bl=>
    obtain ⟨b',cap,cur,fz,h1,h2,h3,h4⟩:=this
    rw [hu] at h1;cases h1
    simp only [blockOf,Option.some.injEq] at hb
    subst hb
    exact ⟨h2,(Array.getElem?_eq_some_iff.1 h3).1⟩
  | rox e s l=>
    obtain ⟨h0,v,xs,h1,h2,_⟩:=this
    rw [hu] at h1;cases h1
    refine ⟨h2.2 b hb,(h2.1.lt b ?_).2⟩
    rcases h2.1.2 with ⟨rfl,_⟩ | ⟨g,_,_,rfl,_⟩
    · simp [blockOf] at hb
    · simpa [blockOf,Value.ownBlock] using hb
  | fmap q es=>cases ho
  | iter left cur=>
    obtain ⟨r,b',mes,clock,since,seen,c0,h1,h2,h3,_⟩:=this
    rw [hu] at h1;cases h1
    simp only [blockOf,Option.some.injEq] at hb
    subst hb
    exact ⟨h2,(Array.getElem?_eq_some_iff.1 h3).1⟩
theorem HRel.step {F:Nat→Prop} {base:Nat→Prop} {ρ ρ':Nat→Option Value} {heap heap':List (Nat×Option Blk)} {next next':Nat} {w0 w w':World} (f:Nat) (row:Option Nat)
    (h:HRel F base ρ heap next w0 w) (hg:w.grownBy w' row) (hrow:∀ k,row=some k→base k ∧ ¬ Stab F ρ heap k)
    (hρ:∀ id u,ρ id=some u→ρ' id=some u) (hsup:∀ id u,ρ' id=some u→id<next' ∧ u.oneCell' = true)
    (hold:∀ id B,id≠f→getH heap' id=some B→getH heap id=some B ∧ ∃ u,ρ id=some u∧(B.owns=true → ∀ b,blockOf u=some b→row≠some b))
    (hfb:∀ B u b,getH heap' f=some B→B.owns=true→ρ' f=some u→blockOf u=some b→w.heap.size≤b∨(¬ Stab F ρ heap b ∧ ∀ id B' u',id≠f→getH heap' id=some B' → B'.owns=true→ρ' id=some u' → blockOf u' ≠ some b))
    (hf:∀ B,getH heap' f=some B→(∀ b,Stab F ρ heap b→b<w.heap.size→Stab F ρ' heap' b)→Same (Stab F ρ heap) w w' → BRel base ρ' (Stab F ρ' heap') w' f B) :
    HRel F base ρ' heap' next' w0 w' ∧ Same (Stab F ρ heap) w w' ∧ (∀ b,Stab F ρ heap b→b<w.heap.size→Stab F ρ' heap' b):=by
  have hsame:Same (Stab F ρ heap) w w':=fun b hS hlt=>hg.block b hlt (fun e=>(hrow b e.symm).2 hS)
  have hstab:∀ b,Stab F ρ heap b→b<w.heap.size→Stab F ρ' heap' b:=by
    intro b hS hlt
    refine ⟨hS.1,fun id B u hB ho hu hb=>?_⟩
    by_cases hid:id=f
    · subst hid
      rcases hfb B u b hB ho hu hb with h1|h1
      · omega
      · exact h1.1 hS
    · obtain ⟨h1,u',hu',_⟩:=hold id B hid hB
      have:=hρ _ _ hu'
      rw [hu] at this;cases this
      exact hS.2 id B u h1 ho hu' hb
  refine ⟨⟨⟨h.below.trans ⟨hg.os,hg.tape,hg.output,hg.size,fun k hk hb=>hg.block k hk (fun e=>hb (hrow k e.symm).1)⟩,fun b hb=>h.hbase b (Nat.le_trans hg.size hb),hsup,?_,?_⟩,h.hF⟩,hsame,hstab⟩
  · intro id id' B B' u u' b hB hB' ho ho' hu hu' hb hb'
    by_cases e1:id=f
    · by_cases e2:id' = f
      · rw [e1,e2]
      · exfalso
        subst e1
        obtain ⟨h1,v,hv,hvr⟩:=hold id' B' e2 hB'
        have e:=hρ _ _ hv
        rw [hu'] at e;cases e
        have hl:=(h.owned h1 ho' hv hb').2
        rcases hfb B u b hB ho hu hb with h2|h2
        · omega
        · exact h2.2 id' B' u' e2 hB' ho' hu' hb'
    · by_cases e2:id' = f
      · exfalso
        subst e2
        obtain ⟨h1,v,hv,hvr⟩:=hold id B e1 hB
        have e:=hρ _ _ hv
        rw [hu] at e;cases e
        have hl:=(h.owned h1 ho hv hb).2
        rcases hfb B' u' b hB' ho' hu' hb' with h2|h2
        · omega
        · exact h2.2 id B u e1 hB ho hu hb
      · obtain ⟨h1,v,hv,_⟩:=hold id B e1 hB
        obtain ⟨h1',v',hv',_⟩:=hold id' B' e2 hB'
        have e:=hρ _ _ hv
        rw [hu] at e;cases e
        have e':=hρ _ _ hv'
        rw [hu'] at e';cases e'
        exact h.inj id id' B B' u u' b h1 h1' ho ho' hv hv' hb hb'
  · intro id B hB
    by_cases e1:id=f
    · subst e1
      exact hf B hB hstab hsame
    · obtain ⟨h1,v,hv,hvr⟩:=hold id B e1 hB
      refine (h.blk id B h1).mono hsame hstab hρ (fun ho u b hu hb hlt=>?_)
      rw [hv] at hu;cases hu
      exact hg.block b hlt (fun e=>hvr ho b hb e.symm)
theorem HRel.grow {F:Nat→Prop} {base:Nat→Prop} {ρ:Nat→Option Value} {heap:List (Nat×Option Blk)} {next:Nat} {w0 w w':World} (h:HRel F base ρ heap next w0 w) (hb:Below w.heap.size w w') :
    HRel F base ρ heap next w0 w':=by
  have hs:Same (Stab F ρ heap) w w':=fun b _ hlt=>hb.block b hlt
  refine ⟨⟨h.below.trans (.of_below hb),fun b hbb=>h.hbase b (Nat.le_trans hb.size hbb),h.sup,h.inj,fun id B hB=>?_⟩,h.hF⟩
  exact (h.blk id B hB).mono hs (fun b h _=>h) (fun _ _ h=>h) (fun _ u b _ _ hlt=>hb.block b hlt)
theorem ERel.mono {ρ ρ':Nat→Option Value} {S S':Nat→Prop} {w w':World} {nt:Nat} {env:List (Nat×V)} {a:Act} (h:ERel ρ S w nt env a) (hw:Same S w w')
    (hS:∀ b,S b→b<w.heap.size→S' b) (hρ:∀ id u,ρ id=some u→ρ' id=some u):ERel ρ' S' w' nt env a:=
  ⟨h.size,h.defers,fun t v hv=>(h.slot t v hv).mono hw hS hρ⟩
theorem ERel.put {ρ:Nat→Option Value} {S:Nat→Prop} {w:World} {nt:Nat} {env:List (Nat×V)} {a:Act} (h:ERel ρ S w nt env a) {d:Nat} (hd:d<nt) {v:V} {u:Value} (hv:VRel ρ S w v u) :
    ERel ρ S w nt ((d,v) :: env) (a.put (some d) u):=by
  refine ⟨by simp [Act.put,h.size],h.defers,fun t x hx=>?_⟩
  simp only [getE] at hx
  by_cases hdt:d=t
  · subst hdt
    simp only [Nat.beq_refl,cond_true,Option.some.injEq] at hx
    subst hx
    have:(a.put (some d) u).tmps.getD d undef=u:=by simp [Act.put,h.size,hd]
    rw [this];exact hv
  · have hb:Nat.beq d t=false:=by
      cases hb:Nat.beq d t
      · rfl
      · exact absurd (Nat.eq_of_beq_eq_true hb) hdt
    rw [hb] at hx
    simp only [cond_false] at hx
    have:(a.put (some d) u).tmps.getD t undef=a.tmps.getD t undef:=by
      simp only [Act.put]
      rw [Array.getD_eq_getD_getElem?,Array.getD_eq_getD_getElem?,Array.getElem?_setIfInBounds_ne hdt]
    rw [this];exact h.slot t x hx
end Go.Proofs.YtendheafcbickaaGreat
end
section
namespace Go.Proofs.YtendheafcbickaaGreat
open Go.RowKit
def opE (env:List (Nat×V)):Operand→Option V
  | .tmp t=>getE env t
  | .const (.agg cs)=>bif cs.toList.all (fun u=>u.oneCell') then some (.agg (cs.toList.map .lit)) else none
  | .const (.tuple _)=>none
  | .const v=>some (.lit v)
  | .func f=>some (.clo f [])
  | .global _=>none
theorem opE_sound {ρ:Nat→Option Value} {S:Nat→Prop} {w:World} {nt:Nat} {env:List (Nat×V)} {a:Act} (h:ERel ρ S w nt env a) {x:Operand} {v:V} (hx:opE env x=some v):VRel ρ S w v (a.eval x):=by
  cases x with
  | tmp t=>exact h.slot t v hx
  | const c=>
    cases c
    case agg cs=>
      simp only [opE] at hx
      cases hb:cs.toList.all (fun u=>u.oneCell') with
      | false=>rw [hb] at hx;cases hx
      | true=>
        rw [hb] at hx
        simp only [cond_true,Option.some.injEq] at hx
        subst hx
        refine .agg (by simp) (fun j hj=>?_)
        simp only [List.length_map,Array.length_toList] at hj
        have e1:cAt (cs.toList.map V.lit) j = .lit (cs.getD j undef):=by
          unfold cAt
          rw [List.getD_eq_getElem?_getD,List.getElem?_map,List.getElem?_eq_getElem (by simpa using hj)]
          simp [Array.getD_eq_getD_getElem?,hj]
        rw [e1]
        refine .pure (.lit _ ?_)
        rw [List.all_eq_true] at hb
        refine hb _ ?_
        simp [Array.getD_eq_getD_getElem?,hj]
    case tuple=>simp [opE] at hx
    all_goals (simp only [opE,Option.some.injEq] at hx;subst hx;exact .pure (.lit _ rfl))
  | func f=>
    simp only [opE,Option.some.injEq] at hx
    subst hx
    exact .clo (by simp) (fun j hj=>by simp at hj)
  | global g=>simp [opE] at hx
def GB (ρ:Nat→Option Value) (G:List Nat) (b:Nat):Prop:=∃ id u,id ∈ G∧ρ id=some u∧blockOf u=some b
structure Ext (B:Nat→Prop) (w w':World):Prop where
  size:w.heap.size≤w'.heap.size
  block:∀ k,k<w.heap.size → ¬ B k→w'.heap[k]? = w.heap[k]?
theorem Ext.refl (B:Nat→Prop) (w:World):Ext B w w:=⟨Nat.le_refl _,fun _ _ _=>rfl⟩
def liveG (heap:List (Nat×Option Blk)):List Nat→Bool
  | []=>true
  | id :: r=>match getH heap id with
    | some B=>B.owns && liveG heap r
    | none=>false
theorem liveG_spec {heap:List (Nat×Option Blk)}:∀ {G:List Nat},liveG heap G=true → ∀ id,id ∈ G → ∃ B,getH heap id=some B∧B.owns=true
  | [],_,_,h=>by cases h
  | i :: r,h,id,hm=>by
    simp only [liveG] at h
    cases hB:getH heap i with
    | none=>rw [hB] at h;cases h
    | some B=>
      rw [hB] at h
      simp only [Bool.and_eq_true] at h
      rcases List.mem_cons.1 hm with rfl|hm
      · exact ⟨B,hB,h.1⟩
      · exact liveG_spec h.2 id hm
def QStep (P:Program) (G:List Nat) (o:Oper) (st:St) (v:V):Prop:=
  ∀ F base w0 ρ a w,HRel0 F base ρ st.heap st.next w0 w→ERel ρ (Stab F ρ st.heap) w st.nt st.env a→liveG st.heap G=true →
    ∃ u,VRel ρ (Stab F ρ st.heap) w v u ∧ ∀ w',Ext (GB ρ G) w w' → (execOp a.eval o).run P w' = .ok (.value u) w'
def Next (n0:Nat) (F:Nat→Prop) (base:Nat→Prop) (w0:World) (ρ:Nat→Option Value) (w:World) (st':St) (a':Act) (w':World):Prop:=
  ∃ ρ',HRel F base ρ' st'.heap st'.next w0 w' ∧ ERel ρ' (Stab F ρ' st'.heap) w' st'.nt st'.env a' ∧ (∀ id u,ρ id=some u→ρ' id=some u)∧(∀ id,id<n0→ρ' id=ρ id)
def GStep (P:Program) (n0:Nat) (o:Oper) (st st':St):Prop:=
  ∀ F base w0 ρ a w,HRel F base ρ st.heap st.next w0 w→ERel ρ (Stab F ρ st.heap) w st.nt st.env a→o.wp P a w (Next n0 F base w0 ρ w st') (fun _ _ _=>False)
section
variable {P:Program} {G:List Nat} {o:Oper} {st:St}
theorem q_of_run {v:V} (h:∀ F base w0 ρ a w,HRel0 F base ρ st.heap st.next w0 w→ERel ρ (Stab F ρ st.heap) w st.nt st.env a → ∃ u,VRel ρ (Stab F ρ st.heap) w v u ∧ ∀ w',(execOp a.eval o).run P w' = .ok (.value u) w'):QStep P G o st v:=
  fun F base w0 ρ a w hH hE _=>let ⟨u,h1,h2⟩:=h F base w0 ρ a w hH hE;⟨u,h1,fun w' _=>h2 w'⟩
theorem q_move {x:Operand} {v:V} (ho:o.op = .move x) (hx:opE st.env x=some v):QStep P G o st v:=
  q_of_run fun F base w0 ρ a w hH hE=>⟨_,opE_sound hE hx,fun w'=>by unfold execOp;rw [ho];rfl⟩
theorem q_assign {x:Operand} {v:V} (ho:o.op = .assign x) (hx:opE st.env x=some v):QStep P G o st v:=
  q_of_run fun F base w0 ρ a w hH hE=>⟨_,opE_sound hE hx,fun w'=>by unfold execOp;rw [ho];rfl⟩
theorem lit_inv {ρ:Nat→Option Value} {S:Nat→Prop} {w:World} {u u':Value} (h:VRel ρ S w (.lit u) u'):u' = u:=by
  cases h with
  | pure h=>cases h;rfl
theorem lit_one {ρ:Nat→Option Value} {S:Nat→Prop} {w:World} {u u':Value} (h:VRel ρ S w (.lit u) u'):u.oneCell' = true:=by
  cases h with
  | pure h=>cases h;assumption
theorem q_pick_t {c x y:Operand} {v:V} (ho:o.op = .pick c x y) (hc:opE st.env c=some (.lit (.bool true))) (hx:opE st.env x=some v):QStep P G o st v:=
  q_of_run fun F base w0 ρ a w hH hE=>⟨_,opE_sound hE hx,fun w'=>by unfold execOp;rw [ho];simp only [];rw [lit_inv (opE_sound hE hc)];rfl⟩
theorem q_pick_f {c x y:Operand} {v:V} (ho:o.op = .pick c x y) (hc:opE st.env c=some (.lit (.bool false))) (hx:opE st.env y=some v):QStep P G o st v:=
  q_of_run fun F base w0 ρ a w hH hE=>⟨_,opE_sound hE hx,fun w'=>by unfold execOp;rw [ho];simp only [];rw [lit_inv (opE_sound hE hc)];rfl⟩
theorem q_bin {op:BinOp} {T yt:TypeId} {x y:Operand} {u v r:Value} (ho:o.op = .binOp op T x y yt) (hx:opE st.env x=some (.lit u)) (hy:opE st.env y=some (.lit v))
    (hr:∀ w,(do eqGuard op T x y u v;binOp op T u v:Sem Value).run P w = .ok r w) (h1:r.oneCell' = true):QStep P G o st (.lit r):=
  q_of_run fun F base w0 ρ a w hH hE=>⟨r,.pure (.lit _ h1),fun w'=>by
    unfold execOp;rw [ho];simp only [];rw [lit_inv (opE_sound hE hx),lit_inv (opE_sound hE hy)]
    have:=hr w'
    simp only [Sem.run_bind] at this ⊢
    rw [this];rfl⟩
theorem q_add {T yt:TypeId} {x y:Operand} {k:IntKind} {m n:Int} (ho:o.op = .binOp .add T x y yt) (hx:opE st.env x=some (.lit (.int k m))) (hy:opE st.env y=some (.lit (.int k n))) :
    QStep P G o st (.lit (.int k (k.wrap (m+n)))):=q_bin ho hx hy (fun w=>by simp [eqGuard,binOp,Op.intArith,go_sem]) rfl
theorem q_sub {T yt:TypeId} {x y:Operand} {k:IntKind} {m n:Int} (ho:o.op = .binOp .sub T x y yt) (hx:opE st.env x=some (.lit (.int k m))) (hy:opE st.env y=some (.lit (.int k n))) :
    QStep P G o st (.lit (.int k (k.wrap (m - n)))):=q_bin ho hx hy (fun w=>by simp [eqGuard,binOp,Op.intArith,go_sem]) rfl
theorem q_mul {T yt:TypeId} {x y:Operand} {k:IntKind} {m n:Int} (ho:o.op = .binOp .mul T x y yt) (hx:opE st.env x=some (.lit (.int k m))) (hy:opE st.env y=some (.lit (.int k n))) :
    QStep P G o st (.lit (.int k (k.wrap (m * n)))):=q_bin ho hx hy (fun w=>by simp [eqGuard,binOp,Op.intArith,go_sem]) rfl
theorem q_quo {T yt:TypeId} {x y:Operand} {k:IntKind} {m n:Int} (ho:o.op = .binOp .quo T x y yt) (hx:opE st.env x=some (.lit (.int k m))) (hy:opE st.env y=some (.lit (.int k n))) (hn:n≠0) :
    QStep P G o st (.lit (.int k (k.wrap (m.tdiv n)))):=q_bin ho hx hy (fun w=>by simp [eqGuard,binOp,Op.intDiv,go_sem,hn]) rfl
theorem q_rem {T yt:TypeId} {x y:Operand} {k:IntKind} {m n:Int} (ho:o.op = .binOp .rem T x y yt) (hx:opE st.env x=some (.lit (.int k m))) (hy:opE st.env y=some (.lit (.int k n))) (hn:n≠0) :
    QStep P G o st (.lit (.int k (m.tmod n))):=q_bin ho hx hy (fun w=>by simp [eqGuard,binOp,Op.intDiv,go_sem,hn]) rfl
theorem q_lss {T yt:TypeId} {x y:Operand} {k:IntKind} {m n:Int} (ho:o.op = .binOp .lss T x y yt) (hx:opE st.env x=some (.lit (.int k m))) (hy:opE st.env y=some (.lit (.int k n))) :
    QStep P G o st (.lit (.bool (decide (m<n)))):=q_bin ho hx hy (fun w=>by simp [eqGuard,binOp,Op.intCmp,go_sem]) rfl
theorem q_leq {T yt:TypeId} {x y:Operand} {k:IntKind} {m n:Int} (ho:o.op = .binOp .leq T x y yt) (hx:opE st.env x=some (.lit (.int k m))) (hy:opE st.env y=some (.lit (.int k n))) :
    QStep P G o st (.lit (.bool (decide (m≤n)))):=q_bin ho hx hy (fun w=>by simp [eqGuard,binOp,Op.intCmp,go_sem]) rfl
theorem q_gtr {T yt:TypeId} {x y:Operand} {k:IntKind} {m n:Int} (ho:o.op = .binOp .gtr T x y yt) (hx:opE st.env x=some (.lit (.int k m))) (hy:opE st.env y=some (.lit (.int k n))) :
    QStep P G o st (.lit (.bool (decide (n<m)))):=q_bin ho hx hy (fun w=>by simp [eqGuard,binOp,Op.intCmp,go_sem]) rfl
theorem q_geq {T yt:TypeId} {x y:Operand} {k:IntKind} {m n:Int} (ho:o.op = .binOp .geq T x y yt) (hx:opE st.env x=some (.lit (.int k m))) (hy:opE st.env y=some (.lit (.int k n))) :
    QStep P G o st (.lit (.bool (decide (n≤m)))):=q_bin ho hx hy (fun w=>by simp [eqGuard,binOp,Op.intCmp,go_sem]) rfl
theorem beq_dec (m n:Int):(m == n)=decide (m=n):=by rw [Bool.eq_iff_iff];simp
theorem bne_dec (m n:Int):(m != n)=decide (¬ m=n):=by rw [Bool.eq_iff_iff];simp
theorem q_eql {T yt:TypeId} {x y:Operand} {k:IntKind} {m n:Int} (ho:o.op = .binOp .eql T x y yt) (hx:opE st.env x=some (.lit (.int k m))) (hy:opE st.env y=some (.lit (.int k n))) :
    QStep P G o st (.lit (.bool (decide (m=n)))):=q_bin ho hx hy (fun w=>by rw [← beq_dec];simp [eqGuard,binOp,Op.intCmp,go_sem]) rfl
theorem q_neq {T yt:TypeId} {x y:Operand} {k:IntKind} {m n:Int} (ho:o.op = .binOp .neq T x y yt) (hx:opE st.env x=some (.lit (.int k m))) (hy:opE st.env y=some (.lit (.int k n))) :
    QStep P G o st (.lit (.bool (decide (¬ m=n)))):=q_bin ho hx hy (fun w=>by rw [← bne_dec];simp [eqGuard,binOp,Op.intCmp,go_sem]) rfl
def bitsI (op:BinOp) (k:IntKind) (m n:Int):Int:=
  k.wrap (((match op with | .and=>BitVec.ofInt k.bits m &&& BitVec.ofInt k.bits n | .or=>BitVec.ofInt k.bits m ||| BitVec.ofInt k.bits n | .xor=>BitVec.ofInt k.bits m ^^^ BitVec.ofInt k.bits n|_=>BitVec.ofInt k.bits m &&& ~~~BitVec.ofInt k.bits n):BitVec k.bits).toNat:Int)
theorem q_and {T yt:TypeId} {x y:Operand} {k:IntKind} {m n:Int} (ho:o.op = .binOp .and T x y yt) (hx:opE st.env x=some (.lit (.int k m))) (hy:opE st.env y=some (.lit (.int k n))) :
    QStep P G o st (.lit (.int k (bitsI .and k m n))):=q_bin ho hx hy (fun w=>by simp [eqGuard,binOp,Op.intBits,bitsI,Sem.run_pure]) rfl
theorem q_or {T yt:TypeId} {x y:Operand} {k:IntKind} {m n:Int} (ho:o.op = .binOp .or T x y yt) (hx:opE st.env x=some (.lit (.int k m))) (hy:opE st.env y=some (.lit (.int k n))) :
    QStep P G o st (.lit (.int k (bitsI .or k m n))):=q_bin ho hx hy (fun w=>by simp [eqGuard,binOp,Op.intBits,bitsI,Sem.run_pure]) rfl
theorem q_xor {T yt:TypeId} {x y:Operand} {k:IntKind} {m n:Int} (ho:o.op = .binOp .xor T x y yt) (hx:opE st.env x=some (.lit (.int k m))) (hy:opE st.env y=some (.lit (.int k n))) :
    QStep P G o st (.lit (.int k (bitsI .xor k m n))):=q_bin ho hx hy (fun w=>by simp [eqGuard,binOp,Op.intBits,bitsI,Sem.run_pure]) rfl
theorem q_andNot {T yt:TypeId} {x y:Operand} {k:IntKind} {m n:Int} (ho:o.op = .binOp .andNot T x y yt) (hx:opE st.env x=some (.lit (.int k m))) (hy:opE st.env y=some (.lit (.int k n))) :
    QStep P G o st (.lit (.int k (bitsI .andNot k m n))):=q_bin ho hx hy (fun w=>by simp [eqGuard,binOp,Op.intBits,bitsI,Sem.run_pure]) rfl
theorem q_shl {T yt:TypeId} {x y:Operand} {k k':IntKind} {m n:Int} (ho:o.op = .binOp .shl T x y yt) (hx:opE st.env x=some (.lit (.int k m))) (hy:opE st.env y=some (.lit (.int k' n))) (hn:0≤n) :
    QStep P G o st (.lit (.int k (k.wrap (m * 2 ^ min n.toNat k.bits)))):=q_bin ho hx hy (fun w=>by simp [eqGuard,binOp,Op.shift,go_sem,show ¬ n<0 by omega]) rfl
theorem q_shr {T yt:TypeId} {x y:Operand} {k k':IntKind} {m n:Int} (ho:o.op = .binOp .shr T x y yt) (hx:opE st.env x=some (.lit (.int k m))) (hy:opE st.env y=some (.lit (.int k' n))) (hn:0≤n) :
    QStep P G o st (.lit (.int k (m.fdiv (2 ^ min n.toNat k.bits)))):=q_bin ho hx hy (fun w=>by simp [eqGuard,binOp,Op.shift,go_sem,show ¬ n<0 by omega]) rfl
theorem ba_eq (m n:ByteArray):(m.toList == n.toList)=decide (m=n):=by
  rw [Bool.eq_iff_iff]
  simp only [beq_iff_eq,decide_eq_true_eq,ByteArray.toList_eq]
  constructor
  · intro h;cases m;cases n;simp_all
  · intro h;rw [h]
theorem q_str_eql {T yt:TypeId} {x y:Operand} {m n:ByteArray} (ho:o.op = .binOp .eql T x y yt) (hx:opE st.env x=some (.lit (.string m))) (hy:opE st.env y=some (.lit (.string n))) :
    QStep P G o st (.lit (.bool (decide (m=n)))):=q_bin ho hx hy (fun w=>by rw [← ba_eq];simp [eqGuard,binOp,Op.stringOp,Sem.run_pure]) rfl
theorem q_str_add {T yt:TypeId} {x y:Operand} {m n:ByteArray} (ho:o.op = .binOp .add T x y yt) (hx:opE st.env x=some (.lit (.string m))) (hy:opE st.env y=some (.lit (.string n))) (hn:m.size+n.size≤9223372036854775807) :
    QStep P G o st (.lit (.string (m++n))):=q_bin ho hx hy (fun w=>by
      have h:¬ ((m.size+n.size:Nat):Int) > IntKind.i64.max:=by
        have:IntKind.i64.max=9223372036854775807:=by decide
        rw [this];omega
      simp only [eqGuard,binOp,Op.stringOp]
      simp only [if_neg h]
      rfl) rfl
theorem q_un {op:UnOp} {T:TypeId} {x:Operand} {u r:Value} (ho:o.op = .unOp op T x) (hx:opE st.env x=some (.lit u)) (hr:∀ w,(Op.unary op u).run P w = .ok r w) (h1:r.oneCell' = true):QStep P G o st (.lit r):=
  q_of_run fun F base w0 ρ a w hH hE=>⟨r,.pure (.lit _ h1),fun w'=>by
    unfold execOp;rw [ho];simp only [];rw [lit_inv (opE_sound hE hx)]
    simp only [Sem.run_bind,hr w'];rfl⟩
theorem q_not {T:TypeId} {x:Operand} {b:Bool} (ho:o.op = .unOp .not T x) (hx:opE st.env x=some (.lit (.bool b))):QStep P G o st (.lit (.bool (!b))):=
  q_un ho hx (fun _=>rfl) rfl
theorem q_neg {T:TypeId} {x:Operand} {k:IntKind} {n:Int} (ho:o.op = .unOp .neg T x) (hx:opE st.env x=some (.lit (.int k n))):QStep P G o st (.lit (.int k (k.wrap (0 - n)))):=
  q_un ho hx (fun _=>rfl) rfl
theorem q_xorU {T:TypeId} {x:Operand} {k:IntKind} {n:Int} (ho:o.op = .unOp .xor T x) (hx:opE st.env x=some (.lit (.int k n))):QStep P G o st (.lit (.int k (bitsI .xor k (if k.signed then -1 else k.max) n))):=
  q_un ho hx (fun _=>rfl) rfl
theorem q_conv_int {T U:TypeId} {x:Operand} {k k':IntKind} {n:Int} {d:TypeDesc} (ho:o.op = .convert T U x) (hx:opE st.env x=some (.lit (.int k n))) (hT:P.underlying T=some d) (hU:P.underlying U=some (.int k')) :
    QStep P G o st (.lit (.int k' (k'.wrap n))):=
  q_of_run fun F base w0 ρ a w hH hE=>⟨_,.pure (.lit _ rfl),fun w'=>by
    unfold execOp;rw [ho];simp only [];rw [lit_inv (opE_sound hE hx)]
    simp [convert,run_underlying hT,run_underlying hU,Conv.intToInt,go_sem]⟩
theorem q_conv_str {T U:TypeId} {x:Operand} {s:ByteArray} (ho:o.op = .convert T U x) (hx:opE st.env x=some (.lit (.string s))) (hT:P.underlying T=some .string) (hU:P.underlying U=some .string) :
    QStep P G o st (.lit (.string s)):=
  q_of_run fun F base w0 ρ a w hH hE=>⟨_,.pure (.lit _ rfl),fun w'=>by
    unfold execOp;rw [ho];simp only [];rw [lit_inv (opE_sound hE hx)]
    simp [convert,run_underlying hT,run_underlying hU,go_sem]⟩
theorem q_extract {x:Operand} {i:Nat} {vs:List V} {v:V} (ho:o.op = .extract x i) (hx:opE st.env x=some (.tup vs)) (hi:vs[i]? = some v):QStep P G o st v:=
  q_of_run fun F base w0 ρ a w hH hE=>by
    have h:=opE_sound hE hx
    generalize hu:a.eval x=u at h
    cases h with
    | pure h=>cases h
    | @tup _ us hn h=>
      have hlt:i<vs.length:=(List.getElem?_eq_some_iff.1 hi).1
      have:=h i hlt
      have e:cAt vs i=v:=by unfold cAt;rw [List.getD_eq_getElem?_getD,hi];rfl
      rw [e] at this
      refine ⟨_,this,fun w'=>?_⟩
      unfold execOp;rw [ho];simp only [];rw [hu]
      have e2:us[i]? = some (us.getD i undef):=by rw [Array.getD_eq_getD_getElem?,Array.getElem?_eq_getElem (by omega)];rfl
      simp only [Instr.extract,e2];rfl
theorem q_builtin1 {b:Builtin} {x:Operand} {ts:Array TypeId} {v:V} (ho:o.op = .call { callee:=.builtin b,args:=#[x],argTypes:=ts })
    (hr:∀ F base w0 ρ a w,HRel0 F base ρ st.heap st.next w0 w→ERel ρ (Stab F ρ st.heap) w st.nt st.env a → ∃ r,VRel ρ (Stab F ρ st.heap) w v r ∧ ∀ cs w',(builtin b ts o.type cs #[a.eval x]).run P w' = .ok (.value r) w'):QStep P G o st v:=
  q_of_run fun F base w0 ρ a w hH hE=>by
    obtain ⟨r,h1,h2⟩:=hr F base w0 ρ a w hH hE
    refine ⟨r,h1,fun w'=>?_⟩
    unfold execOp;rw [ho]
    simp only [resolve,invoke,Sem.run_bind,Sem.run_pure,Result.andThen_ok,List.map_toArray,List.map_cons,List.map_nil]
    exact h2 _ w'
theorem q_builtin2 {b:Builtin} {x y:Operand} {ts:Array TypeId} {v:V} (ho:o.op = .call { callee:=.builtin b,args:=#[x,y],argTypes:=ts })
    (hr:∀ F base w0 ρ a w,HRel0 F base ρ st.heap st.next w0 w→ERel ρ (Stab F ρ st.heap) w st.nt st.env a → ∃ r,VRel ρ (Stab F ρ st.heap) w v r ∧ ∀ cs w',(builtin b ts o.type cs #[a.eval x,a.eval y]).run P w' = .ok (.value r) w'):QStep P G o st v:=
  q_of_run fun F base w0 ρ a w hH hE=>by
    obtain ⟨r,h1,h2⟩:=hr F base w0 ρ a w hH hE
    refine ⟨r,h1,fun w'=>?_⟩
    unfold execOp;rw [ho]
    simp only [resolve,invoke,Sem.run_bind,Sem.run_pure,Result.andThen_ok,List.map_toArray,List.map_cons,List.map_nil]
    exact h2 _ w'
theorem q_len_str {x:Operand} {t:TypeId} {s:ByteArray} (ho:o.op = .call { callee:=.builtin .len,args:=#[x],argTypes:=#[t] }) (hx:opE st.env x=some (.lit (.string s))) (ht:P.underlying t=some .string) :
    QStep P G o st (.lit (.int .i64 s.size)):=
  q_builtin1 ho fun F base w0 ρ a w hH hE=>⟨_,.pure (.lit _ rfl),fun cs w'=>by
    rw [lit_inv (opE_sound hE hx)]
    simp [builtin,Builtin.len_,run_underlying ht,Sem.run_bind,Sem.run_pure,goInt]⟩
theorem run_builtin_len {t e:TypeId} (ht:P.underlying t=some (.slice e)) (A:Option Addr) (n c:Nat) (ty:TypeId) (cs:Array Bool) (w:World):(builtin .len #[t] ty cs #[.slice A n c]).run P w = .ok (.value (.int .i64 n)) w:=by
  simp [builtin,Builtin.len_,run_underlying ht,Sem.run_bind,Sem.run_pure,goInt]
theorem q_len_ro {x:Operand} {t e:TypeId} {l:List (List V)} (ho:o.op = .call { callee:=.builtin .len,args:=#[x],argTypes:=#[t] }) (hx:opE st.env x=some (.ro l)) (ht:P.underlying t=some (.slice e)) :
    QStep P G o st (.lit (.int .i64 l.length)):=
  q_builtin1 ho fun F base w0 ρ a w hH hE=>⟨_,.pure (.lit _ rfl),fun cs w'=>by
    have h:=opE_sound hE hx
    generalize a.eval x=u at h
    cases h with
    | pure h=>cases h with
      | ro=>exact run_builtin_len ht _ _ _ _ _ _⟩
theorem q_len_nil {x:Operand} {t e:TypeId} {A:Option Addr} {n c:Nat} (ho:o.op = .call { callee:=.builtin .len,args:=#[x],argTypes:=#[t] }) (hx:opE st.env x=some (.lit (.slice A n c))) (ht:P.underlying t=some (.slice e)) :
    QStep P G o st (.lit (.int .i64 n)):=
  q_builtin1 ho fun F base w0 ρ a w hH hE=>⟨_,.pure (.lit _ rfl),fun cs w'=>by
    rw [lit_inv (opE_sound hE hx)];exact run_builtin_len ht _ _ _ _ _ _⟩
theorem HRel0.row {F:Nat→Prop} {base:Nat→Prop} {ρ:Nat→Option Value} {heap:List (Nat×Option Blk)} {next:Nat} {w0 w:World} (h:HRel0 F base ρ heap next w0 w) {id:Nat} {e:TypeId} {s:Nat} {l:List (List V)} (hh:getH heap id=some (.row e s l)) :
    ∃ A c,ρ id=some (.slice A l.length c):=by
  obtain ⟨_,v,xs,h1,⟨h2,_⟩,_⟩:=h.blk _ _ hh
  rcases h2.2 with ⟨rfl,h0⟩ | ⟨g,cap,cur,rfl,_⟩
  · exact ⟨_,_,by rw [h0];exact h1⟩
  · exact ⟨_,_,h1⟩
theorem HRel0.fro {F:Nat→Prop} {base:Nat→Prop} {ρ:Nat→Option Value} {heap:List (Nat×Option Blk)} {next:Nat} {w0 w:World} (h:HRel0 F base ρ heap next w0 w) {id:Nat} {l:List (List V)} (hh:getH heap id=some (.fro l)) :
    ∃ A c,ρ id=some (.slice A l.length c):=by
  obtain ⟨v,h1,h2,_⟩:=h.blk _ _ hh
  cases h2 with
  | ro=>exact ⟨_,_,h1⟩
theorem own_inv {ρ:Nat→Option Value} {S:Nat→Prop} {w:World} {id:Nat} {u:Value} (h:VRel ρ S w (.own id) u):ρ id=some u:=by
  cases h with
  | pure h=>cases h
  | own h=>exact h
theorem q_len_row {x:Operand} {t t':TypeId} {id:Nat} {e:TypeId} {s:Nat} {l:List (List V)} (ho:o.op = .call { callee:=.builtin .len,args:=#[x],argTypes:=#[t] }) (hx:opE st.env x=some (.own id)) (hh:getH st.heap id=some (.row e s l)) (ht:P.underlying t=some (.slice t')) :
    QStep P G o st (.lit (.int .i64 l.length)):=
  q_builtin1 ho fun F base w0 ρ a w hH hE=>⟨_,.pure (.lit _ rfl),fun cs w'=>by
    have h:=own_inv (opE_sound hE hx)
    obtain ⟨A,c,h2⟩:=hH.row hh
    rw [h] at h2;injection h2 with h2
    rw [h2];exact run_builtin_len ht _ _ _ _ _ _⟩
theorem q_len_fro {x:Operand} {t t':TypeId} {id:Nat} {l:List (List V)} (ho:o.op = .call { callee:=.builtin .len,args:=#[x],argTypes:=#[t] }) (hx:opE st.env x=some (.own id)) (hh:getH st.heap id=some (.fro l)) (ht:P.underlying t=some (.slice t')) :
    QStep P G o st (.lit (.int .i64 l.length)):=
  q_builtin1 ho fun F base w0 ρ a w hH hE=>⟨_,.pure (.lit _ rfl),fun cs w'=>by
    have h:=own_inv (opE_sound hE hx)
    obtain ⟨A,c,h2⟩:=hH.fro hh
    rw [h] at h2;injection h2 with h2
    rw [h2];exact run_builtin_len ht _ _ _ _ _ _⟩
theorem q_len_arr {x:Operand} {t e:TypeId} {n:Nat} (ho:o.op = .call { callee:=.builtin .len,args:=#[x],argTypes:=#[t] }) (ht:P.underlying t=some (.array n e)) :
    QStep P G o st (.lit (.int .i64 n)):=
  q_builtin1 ho fun F base w0 ρ a w hH hE=>⟨_,.pure (.lit _ rfl),fun cs w'=>by
    simp [builtin,Builtin.len_,run_underlying ht,Sem.run_bind,Sem.run_pure,goInt]⟩
theorem q_max {x y:Operand} {ts:Array TypeId} {k:IntKind} {m n:Int} (ho:o.op = .call { callee:=.builtin .max,args:=#[x,y],argTypes:=ts }) (hx:opE st.env x=some (.lit (.int k m))) (hy:opE st.env y=some (.lit (.int k n))) :
    QStep P G o st (.lit (.int k (max m n))):=
  q_builtin2 ho fun F base w0 ρ a w hH hE=>⟨_,.pure (.lit _ rfl),fun cs w'=>by
    rw [lit_inv (opE_sound hE hx),lit_inv (opE_sound hE hy)]
    have e:max m n=if n > m then n else m:=by split <;> omega
    rw [e]
    simp [builtin,Builtin.max_,Builtin.max2,Sem.run_pure]⟩
theorem q_min {x y:Operand} {ts:Array TypeId} {k:IntKind} {m n:Int} (ho:o.op = .call { callee:=.builtin .min,args:=#[x,y],argTypes:=ts }) (hx:opE st.env x=some (.lit (.int k m))) (hy:opE st.env y=some (.lit (.int k n))) :
    QStep P G o st (.lit (.int k (min m n))):=
  q_builtin2 ho fun F base w0 ρ a w hH hE=>⟨_,.pure (.lit _ rfl),fun cs w'=>by
    rw [lit_inv (opE_sound hE hx),lit_inv (opE_sound hE hy)]
    have e:min m n=if n<m then n else m:=by split <;> omega
    rw [e]
    simp [builtin,Builtin.min_,Builtin.min2,Sem.run_pure]⟩
theorem add_addr (b o n:Nat):(Addr.mk b o none).add n=⟨b,o+n,none⟩:=by
  unfold Addr.add
  by_cases h:n=0 <;> simp [h]
theorem run_fieldAt {T:TypeId} {fields:Array Field} {f:Nat} {fd:Field} {ti:TypeInfo} (hT:P.underlying T=some (.struct fields)) (hf:fields[f]? = some fd) (hi:P.info? fd.type=some ti) (hn:ti.size≠0) (b off:Nat) (w:World) :
    (Instr.fieldAt T (.pointer (some ⟨b,off,none⟩)) f).run P w = .ok (.pointer (some ⟨b,off+fd.offset,none⟩)) w:=by
  simp [Instr.fieldAt,Instr.sureAddr,fieldPlace,sizeOf,typeInfo,run_underlying hT,hf,hi,hn,Sem.run_bind,Sem.run_pure,program,Sem.run,add_addr]
def fieldOff (P:Program) (T:TypeId) (f:Nat):Option Nat:=
  match P.underlying T with
  | some (.struct fields)=>match fields[f]? with
    | some fd=>match P.info? fd.type with
      | some ti=>bif Nat.beq ti.size 0 then none else some fd.offset
      | none=>none
    | none=>none
  | _=>none
theorem run_fieldOff {T:TypeId} {f n:Nat} (h:fieldOff P T f=some n) (b off:Nat) (w:World) :
    (Instr.fieldAt T (.pointer (some ⟨b,off,none⟩)) f).run P w = .ok (.pointer (some ⟨b,off+n,none⟩)) w:=by
  unfold fieldOff at h
  split at h
  · rename_i fields hT
    split at h
    · rename_i fd hf
      split at h
      · rename_i ti hi
        cases hb:Nat.beq ti.size 0 with
        | true=>rw [hb] at h;cases h
        | false=>
          rw [hb] at h
          simp only [cond_false,Option.some.injEq] at h
          subst h
          exact run_fieldAt hT hf hi (fun e=>by rw [e] at hb;cases hb) b off w
      · cases h
    · cases h
  · cases h
theorem ptr_inv {ρ:Nat→Option Value} {S:Nat→Prop} {w:World} {id i s j:Nat} {u:Value} (h:VRel ρ S w (.ptr id i s j) u):∃ r b,ρ id=some r∧blockOf r=some b∧u = .pointer (some ⟨b,i * s+j,none⟩):=by
  cases h with
  | pure h=>cases h
  | ptr h hb=>exact ⟨_,_,h,hb,rfl⟩
theorem rp_inv {ρ:Nat→Option Value} {S:Nat→Prop} {w:World} {cs:List V} {u:Value} (h:VRel ρ S w (.rp cs) u):∃ (b off:Nat) (us:Nat→Value),u = .pointer (some ⟨b,off,none⟩)∧(0<cs.length→S b)∧(∀ j,j<cs.length→w.cell? ⟨b,off+j,none⟩=some (us j)) ∧ ∀ j,j<cs.length→PRel S w (cAt cs j) (us j):=by
  cases h with
  | pure h=>cases h
  | rp us hS hc hr=>exact ⟨_,_,us,rfl,hS,hc,hr⟩
theorem cAt_drop (cs:List V) (n j:Nat):cAt (cs.drop n) j=cAt cs (n+j):=by
  unfold cAt
  rw [List.getD_eq_getElem?_getD,List.getD_eq_getElem?_getD,List.getElem?_drop]
theorem rp_drop {ρ:Nat→Option Value} {S:Nat→Prop} {w:World} {cs:List V} {b off:Nat} {us:Nat→Value} (n:Nat) (hS:0<cs.length→S b) (hc:∀ j,j<cs.length→w.cell? ⟨b,off+j,none⟩=some (us j)) (hr:∀ j,j<cs.length→PRel S w (cAt cs j) (us j)) :
    VRel ρ S w (.rp (cs.drop n)) (.pointer (some ⟨b,off+n,none⟩)):=by
  refine .rp (fun j=>us (n+j)) (fun h=>hS (by simp at h;omega)) (fun j hj=>?_) (fun j hj=>?_)
  · simp only [List.length_drop] at hj
    rw [Nat.add_assoc]
    exact hc (n+j) (by omega)
  · simp only [List.length_drop] at hj
    rw [cAt_drop]
    exact hr (n+j) (by omega)
theorem q_field_ptr {T:TypeId} {x:Operand} {f n id i s j:Nat} (ho:o.op = .fieldAddr T x f) (hx:opE st.env x=some (.ptr id i s j)) (hf:fieldOff P T f=some n):QStep P G o st (.ptr id i s (j+n)):=
  q_of_run fun F base w0 ρ a w hH hE=>by
    obtain ⟨r,b,h1,h2,h3⟩:=ptr_inv (opE_sound hE hx)
    refine ⟨_,.ptr h1 h2,fun w'=>?_⟩
    unfold execOp;rw [ho];simp only [];rw [h3]
    simp only [Sem.run_bind,run_fieldOff hf,Nat.add_assoc];rfl
theorem q_field_rp {T:TypeId} {x:Operand} {f n:Nat} {cs:List V} (ho:o.op = .fieldAddr T x f) (hx:opE st.env x=some (.rp cs)) (hf:fieldOff P T f=some n):QStep P G o st (.rp (cs.drop n)):=
  q_of_run fun F base w0 ρ a w hH hE=>by
    obtain ⟨b,off,us,h1,h2,h3,h4⟩:=rp_inv (opE_sound hE hx)
    refine ⟨_,rp_drop n h2 h3 h4,fun w'=>?_⟩
    unfold execOp;rw [ho];simp only [];rw [h1]
    simp only [Sem.run_bind,run_fieldOff hf];rfl
end
end Go.Proofs.YtendheafcbickaaGreat
end
section
namespace Go.Proofs.YtendheafcbickaaGreat
open Go.RowKit
section
variable {P:Program} {G:List Nat} {o:Oper} {st:St}
def sizeT (P:Program) (T:TypeId):Option Nat:=(P.info? T).map (·.size)
theorem run_sizeT {T n:Nat} (h:sizeT P T=some n) (w:World):(sizeOf T).run P w = .ok n w:=by
  unfold sizeT at h
  cases hi:P.info? T with
  | none=>rw [hi] at h;cases h
  | some i=>
    rw [hi] at h;injection h with h
    simp [sizeOf,typeInfo,hi,Sem.run_bind,Sem.run_pure,program,Sem.run,h]
def aggT (P:Program) (T:TypeId):Option Bool:=
  match P.underlying T with
  | some (.struct _)=>some true
  | some (.array _ _)=>some true
  | some _=>some false
  | none=>none
theorem run_aggT {T:TypeId} {b:Bool} (h:aggT P T=some b) (w:World):(isAgg T).run P w = .ok b w:=by
  unfold aggT at h
  cases hu:P.underlying T with
  | none=>rw [hu] at h;cases h
  | some d=>
    rw [hu] at h
    cases d <;> (injection h with h;subst h;simp [isAgg,run_underlying hu,Sem.run_bind,Sem.run_pure])
theorem eAt_map {α:Type} [Inhabited α] (f:α→List V) {l:List α} {i:Nat} (h:i<l.length):eAt (l.map f) i=f (l.getD i default):=by
  unfold eAt
  rw [List.getD_eq_getElem?_getD,List.getElem?_map,List.getElem?_eq_getElem h,List.getD_eq_getElem?_getD,List.getElem?_eq_getElem h]
  rfl
theorem run_index_slice {T e s:Nat} (hT:P.underlying T=some (.slice e)) (hs:sizeT P e=some s) (b off len c n:Nat) (k:IntKind) (hn:n<len) (w:World) :
    (Instr.indexAt T (.slice (some ⟨b,off,none⟩) len c) (.int k n)).run P w = .ok (.pointer (some ⟨b,off+n * s,none⟩)) w:=by
  simp [Instr.indexAt,asIntOf,run_underlying hT,run_sizeT hs,Sem.run_bind,hn,add_addr]
theorem q_index_ro {T e s n:Nat} {x y:Operand} {l:List (List V)} {k:IntKind} {m:Int} {cs:List V} (ho:o.op = .indexAddr T x y) (hx:opE st.env x=some (.ro l)) (hy:opE st.env y=some (.lit (.int k m)))
    (hm:m=(n:Int)) (hn:n<l.length) (hT:P.underlying T=some (.slice e)) (hs:sizeT P e=some s) (hl:cs.length=s) (he:eAt l n=cs):QStep P G o st (.rp cs):=
  q_of_run fun F base w0 ρ a w hH hE=>by
    subst he hm
    have h:=opE_sound hE hx
    generalize hu:a.eval x=u at h
    cases h with
    | pure h=>cases h with
      | ro l A c s' b off us hc hmx hp hA hsz hcell hrel=>
        obtain ⟨hA1,hA2⟩:=hA (by omega)
        have hs':s' = s:=by rw [← hl,hsz n hn]
        subst hs'
        refine ⟨.pointer (some ⟨b,off+n * s',none⟩),.rp (fun j=>us n j) (fun _=>hA2) (fun j hj=>hcell n j hn (by omega)) (fun j hj=>hrel n j hn (by omega)),fun w'=>?_⟩
        unfold execOp;rw [ho];simp only [];rw [hu,lit_inv (opE_sound hE hy),hA1]
        simp only [Sem.run_bind,run_index_slice hT hs _ _ _ _ _ _ hn];rfl
theorem q_index_row {T e s n id e':Nat} {x y:Operand} {l:List (List V)} {k:IntKind} {m:Int} (ho:o.op = .indexAddr T x y) (hx:opE st.env x=some (.own id)) (hh:getH st.heap id=some (.row e' s l)) (hy:opE st.env y=some (.lit (.int k m)))
    (hm:m=(n:Int)) (hn:n<l.length) (hT:P.underlying T=some (.slice e)) (hs:sizeT P e=some s):QStep P G o st (.ptr id n s 0):=
  q_of_run fun F base w0 ρ a w hH hE=>by
    subst hm
    have h:=own_inv (opE_sound hE hx)
    obtain ⟨_,v,xs,h1,⟨h2,_⟩,_⟩:=hH.blk _ _ hh
    rw [h] at h1;injection h1 with h1
    rcases h2.2 with ⟨_,h0⟩ | ⟨g,cap,cur,hv,_⟩
    · omega
    · rw [hv] at h1
      refine ⟨.pointer (some ⟨g,n * s+0,none⟩),.ptr (b:=g) h (by rw [h1];rfl),fun w'=>?_⟩
      unfold execOp;rw [ho];simp only [];rw [h1,lit_inv (opE_sound hE hy)]
      simp only [Sem.run_bind,run_index_slice hT hs _ _ _ _ _ _ hn,Nat.zero_add,Nat.add_zero];rfl
theorem run_index_array {T e s N:Nat} (hT:P.underlying T=some (.array N e)) (hs:sizeT P e=some s) (b off n:Nat) (k:IntKind) (hn:n<N) (w:World) :
    (Instr.indexAt T (.pointer (some ⟨b,off,none⟩)) (.int k n)).run P w = .ok (.pointer (some ⟨b,off+n * s,none⟩)) w:=by
  simp [Instr.indexAt,asIntOf,Instr.sureAddr,run_underlying hT,run_sizeT hs,Sem.run_bind,hn,add_addr]
theorem q_index_arr {T e s n N id i z j:Nat} {x y:Operand} {k:IntKind} {m:Int} (ho:o.op = .indexAddr T x y) (hx:opE st.env x=some (.ptr id i z j)) (hy:opE st.env y=some (.lit (.int k m)))
    (hm:m=(n:Int)) (hT:P.underlying T=some (.array N e)) (hn:n<N) (hs:sizeT P e=some s):QStep P G o st (.ptr id i z (j+n * s)):=
  q_of_run fun F base w0 ρ a w hH hE=>by
    subst hm
    obtain ⟨r,b,h1,h2,h3⟩:=ptr_inv (opE_sound hE hx)
    refine ⟨_,.ptr h1 h2,fun w'=>?_⟩
    unfold execOp;rw [ho];simp only [];rw [h3,lit_inv (opE_sound hE hy)]
    simp only [Sem.run_bind,run_index_array hT hs _ _ _ _ hn,Nat.add_assoc];rfl
theorem q_index_str {T n:Nat} {x y:Operand} {s:ByteArray} {k:IntKind} {m:Int} (ho:o.op = .index T x y) (hx:opE st.env x=some (.lit (.string s))) (hy:opE st.env y=some (.lit (.int k m)))
    (hm:m=(n:Int)) (hn:n<s.size) (hT:P.underlying T=some .string):QStep P G o st (.lit (.int .u8 ((s.data.toList.getD n 0).toNat:Int))):=
  q_of_run fun F base w0 ρ a w hH hE=>by
    subst hm
    refine ⟨_,.pure (.lit _ rfl),fun w'=>?_⟩
    unfold execOp;rw [ho];simp only [];rw [lit_inv (opE_sound hE hx),lit_inv (opE_sound hE hy)]
    have e:s[n]? = some (s.data.toList.getD n 0):=by
      have h2:s[n]? = some (s[n]'hn):=getElem?_pos s n hn
      rw [h2,List.getD_eq_getElem?_getD,List.getElem?_eq_getElem (by simpa using hn),Option.getD_some]
      rfl
    simp [Instr.index,asIntOf,run_underlying hT,Sem.run_bind,Sem.run_pure,e]
theorem run_load_one {T:TypeId} (hT:aggT P T=some false) {b off:Nat} {u:Value} {w:World} (h:w.cell? ⟨b,off,none⟩=some u):(Instr.loadAt T (.pointer (some ⟨b,off,none⟩))).run P w = .ok u w:=by
  simp [Instr.loadAt,Instr.sureAddr,loadVar,run_aggT hT,Sem.run_bind,load,Sem.run,h]
theorem run_load_agg {T:TypeId} {n:Nat} (hT:aggT P T=some true) (hn:sizeT P T=some n) {b off:Nat} {us:Array Value} {w:World} (hu:us.size=n) (h:∀ j,j<n→w.cell? ⟨b,off+j,none⟩=some (us.getD j undef)) :
    (Instr.loadAt T (.pointer (some ⟨b,off,none⟩))).run P w = .ok (.agg us) w:=by
  have hl:=run_loadCells_list (P:=P) (w:=w) ⟨b,off,none⟩ us.toList (fun j v hj=>by
    rw [add_addr]
    have hlt:j<us.toList.length:=(List.getElem?_eq_some_iff.1 hj).1
    rw [h j (by simp at hlt;omega),← hj]
    simp at hlt
    simp [hlt])
  simp only [Array.length_toList,hu] at hl
  simp [Instr.loadAt,Instr.sureAddr,loadVar,run_aggT hT,run_sizeT hn,Sem.run_bind,hl]
def Reads (G:List Nat) (st:St) (v:V) (cs:List V):Prop:=
  ∀ F base w0 ρ w u,HRel0 F base ρ st.heap st.next w0 w→liveG st.heap G=true→VRel ρ (Stab F ρ st.heap) w v u →
    ∃ (b off:Nat) (us:Nat→Value),u = .pointer (some ⟨b,off,none⟩)∧(∀ j,j<cs.length→VRel ρ (Stab F ρ st.heap) w (cAt cs j) (us j)) ∧ ∀ w',Ext (GB ρ G) w w' → ∀ j,j<cs.length→w'.cell? ⟨b,off+j,none⟩=some (us j)
theorem q_load_one {T:TypeId} {x:Operand} {v u:V} {cs:List V} (ho:o.op = .load T x) (hx:opE st.env x=some v) (hT:aggT P T=some false) (hr:Reads G st v cs) (hc:cs[0]? = some u):QStep P G o st u:=
  fun F base w0 ρ a w hH hE hG=>by
    obtain ⟨b,off,us,h1,h2,h3⟩:=hr F base w0 ρ w _ hH hG (opE_sound hE hx)
    have hlt:0<cs.length:=(List.getElem?_eq_some_iff.1 hc).1
    have e:cAt cs 0=u:=by unfold cAt;rw [List.getD_eq_getElem?_getD,hc];rfl
    refine ⟨us 0,by rw [← e];exact h2 0 hlt,fun w' hw'=>?_⟩
    unfold execOp;rw [ho];simp only [];rw [h1]
    have:=h3 w' hw' 0 hlt
    simp only [Nat.add_zero] at this
    simp only [Sem.run_bind,run_load_one hT this];rfl
theorem q_load_agg {T:TypeId} {n:Nat} {x:Operand} {v:V} {cs:List V} (ho:o.op = .load T x) (hx:opE st.env x=some v) (hT:aggT P T=some true) (hn:sizeT P T=some n) (hr:Reads G st v cs) (hc:n≤cs.length):QStep P G o st (.agg (cs.take n)):=
  fun F base w0 ρ a w hH hE hG=>by
    obtain ⟨b,off,us,h1,h2,h3⟩:=hr F base w0 ρ w _ hH hG (opE_sound hE hx)
    refine ⟨.agg ((Array.range n).map us),.agg (by simp;omega) (fun j hj=>?_),fun w' hw'=>?_⟩
    · simp only [List.length_take] at hj
      have e1:cAt (cs.take n) j=cAt cs j:=by unfold cAt;rw [List.getD_eq_getElem?_getD,List.getD_eq_getElem?_getD,List.getElem?_take,if_pos (by omega)]
      have e2:((Array.range n).map us).getD j undef=us j:=by simp [show j<n by omega]
      rw [e1,e2]
      exact h2 j (by omega)
    · unfold execOp;rw [ho];simp only [];rw [h1]
      have:=run_load_agg (P:=P) (T:=T) (n:=n) hT hn (b:=b) (off:=off) (us:=(Array.range n).map us) (w:=w') (by simp) (fun j hj=>by
        rw [h3 w' hw' j (by omega)];simp [hj])
      simp only [Sem.run_bind,this];rfl
theorem stab_notGB {F:Nat→Prop} {ρ:Nat→Option Value} {heap:List (Nat×Option Blk)} {G:List Nat} (hG:liveG heap G=true) {b:Nat} (h:Stab F ρ heap b):¬ GB ρ G b:=by
  rintro ⟨id,u,hm,hu,hb⟩
  obtain ⟨B,hB,ho⟩:=liveG_spec hG id hm
  exact h.2 id B u hB ho hu hb
theorem Ext.cell {B:Nat→Prop} {w w':World} (h:Ext B w w') {b o:Nat} {u:Value} (hB:¬ B b) (hc:w.cell? ⟨b,o,none⟩=some u):w'.cell? ⟨b,o,none⟩=some u:=by
  have:=h.block b (cell_lt hc) hB
  rw [← hc];simp [World.cell?,this]
theorem reads_rp {cs:List V}:Reads G st (.rp cs) cs:=
  fun F base w0 ρ w u hH hG hv=>by
    obtain ⟨b,off,us,h1,h2,h3,h4⟩:=rp_inv hv
    exact ⟨b,off,us,h1,fun j hj=>.pure (h4 j hj),fun w' hw' j hj=>hw'.cell (stab_notGB hG (h2 (by omega))) (h3 j hj)⟩
def notIn (id:Nat):List Nat→Bool
  | []=>true
  | x :: r=>bif Nat.beq x id then false else notIn id r
theorem notIn_spec {id:Nat}:∀ {G:List Nat},notIn id G=true→id ∉ G
  | [],_=>by simp
  | x :: r,h=>by
    simp only [notIn] at h
    cases hb:Nat.beq x id with
    | true=>rw [hb] at h;cases h
    | false=>
      rw [hb] at h
      simp only [List.mem_cons,not_or]
      exact ⟨fun e=>by rw [e] at hb;simp at hb,notIn_spec h⟩
theorem own_notGB {F:Nat→Prop} {base:Nat→Prop} {ρ:Nat→Option Value} {heap:List (Nat×Option Blk)} {next:Nat} {w0 w:World} (hH:HRel0 F base ρ heap next w0 w) {G:List Nat} (hG:liveG heap G=true) {id b:Nat} {B:Blk} {u:Value}
    (hid:notIn id G=true) (hB:getH heap id=some B) (ho:B.owns=true) (hu:ρ id=some u) (hb:blockOf u=some b):¬ GB ρ G b:=by
  rintro ⟨i,v,hm,hv,hvb⟩
  obtain ⟨B',hB',ho'⟩:=liveG_spec hG i hm
  exact notIn_spec hid (hH.inj i id B' B v u b hB' hB ho' ho hv hu hvb hb ▸ hm)
theorem reads_box {id j t s:Nat} {cs:List V} (hh:getH st.heap id=some (.box t cs)) (hg:notIn id G=true):Reads G st (.ptr id 0 s j) (cs.drop j):=
  fun F base w0 ρ w u hH hG hv=>by
    obtain ⟨r,b,h1,h2,h3⟩:=ptr_inv hv
    obtain ⟨b',us,e1,e2,e3,e4,e5⟩:=hH.blk _ _ hh
    rw [h1] at e1;injection e1 with e1;subst e1
    simp only [blockOf,Option.some.injEq] at h2
    subst h2
    refine ⟨b',j,fun i=>us.getD (j+i) undef,by rw [h3];simp,fun i hi=>?_,fun w' hw' i hi=>?_⟩
    · rw [cAt_drop];simp only [List.length_drop] at hi;exact (e5 (j+i) (by omega)).1
    · simp only [List.length_drop] at hi
      refine hw'.cell (own_notGB hH hG hg hh rfl h1 rfl) ?_
      unfold World.cell?
      simp only [e3,Option.isSome_none,Bool.false_eq_true,if_false]
      rw [Array.getElem?_eq_getElem (by omega)]
      congr 1
      simp [show j+i<us.size by omega]
theorem row_cell {w:World} {base e s n i j:Nat} {v:Value} {xs:List Value} {g:Nat} {u:Value} (h:w.ownsRow base e s v n xs) (hb:blockOf v=some g) (hu:xs[i * s+j]? = some u):w.cell? ⟨g,i * s+j,none⟩=some u:=by
  have:=h.cells (g:=g) (by rcases h.2 with ⟨rfl,_⟩ | ⟨g',_,_,rfl,_⟩ <;> simp_all [blockOf,Value.ownBlock]) _ _ hu
  rwa [add_addr,Nat.zero_add] at this
theorem reads_row {id i j e s:Nat} {l:List (List V)} {cs:List V} (hh:getH st.heap id=some (.row e s l)) (hi:i<l.length) (hg:notIn id G=true) (he:eAt l i=cs):Reads G st (.ptr id i s j) (cs.drop j):=
  fun F base w0 ρ w u hH hG hv=>by
    subst he
    obtain ⟨r,b,h1,h2,h3⟩:=ptr_inv hv
    obtain ⟨e0,v,xs,e1,⟨e2,_⟩,e3,e4⟩:=hH.blk _ _ hh
    rw [h1] at e1;injection e1 with e1;subst e1
    have hlen:(eAt l i).length=s:=e3 i hi
    refine ⟨b,i * s+j,fun k=>xs.getD (i * s+j+k) undef,h3,fun k hk=>?_,fun w' hw' k hk=>?_⟩
    · rw [cAt_drop];simp only [List.length_drop] at hk
      obtain ⟨u,hu,hp,_⟩:=e4 i (j+k) hi (by omega)
      have:xs.getD (i * s+j+k) undef=u:=by rw [List.getD_eq_getElem?_getD,Nat.add_assoc,hu];rfl
      show VRel _ _ _ _ (xs.getD (i * s+j+k) undef)
      rw [this];exact .pure hp
    · simp only [List.length_drop] at hk
      obtain ⟨u,hu,hp,_⟩:=e4 i (j+k) hi (by omega)
      have e:xs.getD (i * s+j+k) undef=u:=by rw [List.getD_eq_getElem?_getD,Nat.add_assoc,hu];rfl
      show _=some (xs.getD (i * s+j+k) undef)
      rw [e]
      refine hw'.cell (own_notGB hH hG hg hh rfl h1 h2) ?_
      rw [Nat.add_assoc]
      exact row_cell e2 h2 hu
end
end Go.Proofs.YtendheafcbickaaGreat
end
section
namespace Go.Proofs.YtendheafcbickaaGreat
open Go.RowKit
section
variable {P:Program} {o:Oper} {st:St} {n0:Nat}
def upd (ρ:Nat→Option Value) (n:Nat) (u:Value):Nat→Option Value:=fun id=>if id=n then some u else ρ id
theorem upd_same (ρ:Nat→Option Value) (n:Nat) (u:Value):upd ρ n u n=some u:=if_pos rfl
theorem upd_ne (ρ:Nat→Option Value) {n id:Nat} (u:Value) (h:id≠n):upd ρ n u id=ρ id:=if_neg h
def St.put (st:St) (d:Option Tmp) (v:V):St:=
  match d with
  | some d=>{ st with env:=(d,v) :: st.env }
  | none=>st
def St.newAt (st:St) (k:Nat) (d:Tmp) (v:V) (B:Blk):St:={ env:=(d,v) :: st.env,heap:=(k,some B) :: st.heap,next:=st.next,nt:=st.nt }
def St.new (st:St) (d:Tmp) (v:V) (B:Blk):St:={ env:=(d,v) :: st.env,heap:=(st.next,some B) :: st.heap,next:=st.next+1,nt:=st.nt }
def NextAt (k:Nat) (F:Nat→Prop) (base:Nat→Prop) (w0:World) (ρ:Nat→Option Value) (w:World) (st':St) (a':Act) (w':World):Prop:=
  ∃ ρ',HRel F base ρ' st'.heap st'.next w0 w' ∧ ERel ρ' (Stab F ρ' st'.heap) w' st'.nt st'.env a' ∧ (∀ id u,ρ id=some u→ρ' id=some u)∧(∀ id,id≠k→ρ' id=ρ id)
def GAt (P:Program) (k:Nat) (o:Oper) (st st':St):Prop:=
  ∀ F base w0 ρ a w,HRel F base ρ st.heap st.next w0 w→ERel ρ (Stab F ρ st.heap) w st.nt st.env a→ρ k=none→k<st.next→o.wp P a w (NextAt k F base w0 ρ w st') (fun _ _ _=>False)
theorem upon_mono0 {a:Act} {w:World} {K K':Act→World→Prop} (h:∀ a w,K a w→K' a w) (hh:o.wp P a w K (fun _ _ _=>False)):o.wp P a w K' (fun _ _ _=>False):=by
  unfold Oper.wp at *
  generalize (execOp a.eval o).run P w=r at *
  cases r with
  | ok n w'=>
    cases n <;> simp only [Oper.upon] at hh ⊢ <;>
      first
        | exact h _ _ hh
        | exact Calls.mono hh (fun e w'' he=>by cases e <;> first|exact h _ _ he|exact he)
        | exact Rows.mono hh (fun _ _ he=>h _ _ he)
  | halt x w'=>cases x <;> simp only [Oper.upon] at hh ⊢ <;> exact hh
theorem gstep_of_at {st':St} (hn0:n0≤st.next) (h:GAt P st.next o { st with next:=st.next+1 } st'):GStep P n0 o st st':=fun F base w0 ρ a w hH hE=>by
  have hnn:ρ st.next=none:=by
    cases h:ρ st.next with
    | none=>rfl
    | some x=>exact absurd (hH.sup _ _ h).1 (Nat.lt_irrefl _)
  refine upon_mono0 ?_ (h F base w0 ρ a w ⟨⟨hH.below,hH.hbase,fun id u h=>⟨Nat.lt_succ_of_lt (hH.sup id u h).1,(hH.sup id u h).2⟩,hH.inj,hH.blk⟩,hH.hF⟩ hE hnn (Nat.lt_succ_self _))
  rintro a' w' ⟨ρ',h1,h2,h3,h4⟩
  exact ⟨ρ',h1,h2,h3,fun id hid=>h4 id (by omega)⟩
theorem getH_new {heap:List (Nat×Option Blk)} {n id:Nat} {B:Option Blk}:getH ((n,B) :: heap) id=if n=id then B else getH heap id:=by
  simp only [getH]
  by_cases h:n=id
  · subst h;simp
  · rw [if_neg h]
    have hb:Nat.beq n id=false:=by
      cases hb:Nat.beq n id
      · rfl
      · exact absurd (Nat.eq_of_beq_eq_true hb) h
    rw [hb];rfl
theorem next_new {k:Nat} {F:Nat→Prop} {base:Nat→Prop} {ρ:Nat→Option Value} {w0 w w':World} {a:Act} {B:Blk} {u:Value} {d:Nat} {v:V}
    (hH:HRel F base ρ st.heap st.next w0 w) (hE:ERel ρ (Stab F ρ st.heap) w st.nt st.env a) (hnn:ρ k=none) (hk:k<st.next) (hw:Below w.heap.size w w')
    (hu:B.owns=true → ∀ b,blockOf u=some b→w.heap.size≤b) (hd:d<st.nt) (h1:u.oneCell' = true)
    (hB:∀ S,(∀ b,Stab F ρ st.heap b→b<w.heap.size→S b)→(B.owns=false → ∀ b,w.heap.size≤b→S b)→Same (Stab F ρ st.heap) w w' → BRel base (upd ρ k u) S w' k B)
    (hv:∀ S,VRel (upd ρ k u) S w' v u):NextAt k F base w0 ρ w (st.newAt k d v B) (a.put (some d) u) w':=by
  have hext:∀ id x,ρ id=some x→upd ρ k u id=some x:=fun id x h=>by rw [upd_ne _ _ (fun e=>by rw [e,hnn] at h;cases h)];exact h
  have hS2:B.owns=false → ∀ b,w.heap.size≤b→Stab F (upd ρ k u) ((k,some B) :: st.heap) b:=by
    intro ho b hb
    refine ⟨hH.hF b (hH.hbase b hb),fun id B' u' hB' ho' hu' hbb=>?_⟩
    rw [getH_new] at hB'
    by_cases e:k=id
    · rw [if_pos e] at hB';injection hB' with hB';subst hB';rw [ho] at ho';cases ho'
    · rw [if_neg e] at hB'
      rw [upd_ne _ _ (Ne.symm e)] at hu'
      have:=(hH.owned hB' ho' hu' hbb).2
      omega
  obtain ⟨h1',h2,h3⟩:=hH.step (ρ':=upd ρ k u) (heap':=(k,some B) :: st.heap) (next':=st.next) (w':=w') k none
    ⟨hw.os,hw.tape,hw.output,hw.size,fun k hk _=>hw.block k hk⟩ (fun k h=>by cases h) hext
    (fun id x h=>by
      by_cases e:id=k
      · rw [e,upd_same] at h;injection h with h;subst h;exact ⟨by omega,h1⟩
      · rw [upd_ne _ _ e] at h;have:=hH.sup _ _ h;exact ⟨by omega,this.2⟩)
    (fun id B' hne hB'=>by
      rw [getH_new,if_neg (Ne.symm hne)] at hB'
      refine ⟨hB',?_⟩
      have:=hH.blk _ _ hB'
      cases B' with
      | box t cs=>obtain ⟨b,us,h1,_⟩:=this;exact ⟨_,h1,fun _ _ _ h=>by cases h⟩
      | row e s l=>obtain ⟨_,v,xs,h1,_⟩:=this;exact ⟨_,h1,fun _ _ _ h=>by cases h⟩
      | fro l=>obtain ⟨v,h1,_⟩:=this;exact ⟨_,h1,fun _ _ _ h=>by cases h⟩
      | map q es=>obtain ⟨b,_,_,h1,_⟩:=this;exact ⟨_,h1,fun _ _ _ h=>by cases h⟩
      | obj o=>obtain ⟨b,h1,_⟩:=this;exact ⟨_,h1,fun _ _ _ h=>by cases h⟩
      | brow be bl=>obtain ⟨b,_,_,_,h1,_⟩:=this;exact ⟨_,h1,fun _ _ _ h=>by cases h⟩
      | rox e s l=>obtain ⟨_,v,xs,h1,_⟩:=this;exact ⟨_,h1,fun _ _ _ h=>by cases h⟩
      | fmap q es=>obtain ⟨b,_,_,h1,_⟩:=this;exact ⟨_,h1,fun _ _ _ h=>by cases h⟩
      | iter left cur=>obtain ⟨r,_,_,_,_,_,_,h1,_⟩:=this;exact ⟨_,h1,fun _ _ _ h=>by cases h⟩)
    (fun B' u' b hB' ho hu' hb=>by
      rw [getH_new,if_pos rfl] at hB';injection hB' with hB';subst hB'
      rw [upd_same] at hu';injection hu' with hu';subst hu'
      exact .inl (hu ho b hb))
    (fun B' hB' hS hsame=>by
      rw [getH_new,if_pos rfl] at hB';injection hB' with hB';subst hB'
      exact hB _ hS hS2 hsame)
  exact ⟨upd ρ k u,h1',(hE.mono h2 h3 hext).put hd (hv _),hext,fun id hid=>upd_ne _ _ hid⟩
theorem below_alloc (w:World) (ob:Obj):Below w.heap.size w (w.alloc ob):=(Below.refl _ w).alloc (Nat.le_refl _) ob
def oneV:V→Bool
  | .lit _=>true
  | .ro _=>true
  | .own _=>true
  | .ptr ..=>true
  | .rp _=>true
  | .clo ..=>true
  | _=>false
theorem one_of_oneV {ρ:Nat→Option Value} {S:Nat→Prop} {w:World} {v:V} {u:Value} (h:VRel ρ S w v u) (ho:oneV v=true) (hρ:∀ id x,ρ id=some x→x.oneCell' = true):u.oneCell' = true:=by
  cases h with
  | pure h=>cases h with
    | lit _ h=>exact h
    | ro=>rfl
  | own h=>exact hρ _ _ h
  | ptr=>rfl
  | rp=>rfl
  | agg=>cases ho
  | tup=>cases ho
  | clo=>rfl
  | any=>cases ho
  | und=>cases ho
def flat:V→Option (List V)
  | .agg cs=>bif cs.all oneV then some cs else none
  | .tup _=>none
  | .any=>none
  | .und=>none
  | v=>some [v]
theorem flat_spec {ρ:Nat→Option Value} {S:Nat→Prop} {w:World} {v:V} {u:Value} {cs:List V} (h:VRel ρ S w v u) (hf:flat v=some cs) (hρ:∀ id x,ρ id=some x→x.oneCell' = true) :
    u.cells.size=cs.length ∧ ∀ j,j<cs.length→VRel ρ S w (cAt cs j) (u.cells.getD j undef)∧(u.cells.getD j undef).oneCell' = true:=by
  have single:∀ v':V,oneV v' = true→VRel ρ S w v' u→u.cells.size=[v'].length ∧ ∀ j,j<[v'].length→VRel ρ S w (cAt [v'] j) (u.cells.getD j undef)∧(u.cells.getD j undef).oneCell' = true:=by
    intro v' ho hv'
    have h1:=one_of_oneV hv' ho hρ
    have hc:u.cells = #[u]:=by cases u <;> first|rfl|(simp [Value.oneCell'] at h1)
    rw [hc]
    refine ⟨rfl,fun j hj=>?_⟩
    have:j=0:=by simpa using hj
    subst this
    exact ⟨hv',h1⟩
  cases v with
  | agg cs'=>
    simp only [flat] at hf
    cases hb:cs'.all oneV with
    | false=>rw [hb] at hf;cases hf
    | true=>
      rw [hb] at hf
      simp only [cond_true,Option.some.injEq] at hf
      subst hf
      cases h with
      | pure h=>cases h
      | @agg _ us hn h=>
        refine ⟨hn,fun j hj=>⟨h j hj,one_of_oneV (h j hj) ?_ hρ⟩⟩
        rw [List.all_eq_true] at hb
        refine hb _ ?_
        unfold cAt
        rw [List.getD_eq_getElem?_getD,List.getElem?_eq_getElem hj]
        exact List.getElem_mem hj
  | tup=>cases hf
  | any=>cases hf
  | und=>cases hf
  | lit=>simp only [flat,Option.some.injEq] at hf;subst hf;exact single _ rfl h
  | ro=>simp only [flat,Option.some.injEq] at hf;subst hf;exact single _ rfl h
  | own=>simp only [flat,Option.some.injEq] at hf;subst hf;exact single _ rfl h
  | ptr=>simp only [flat,Option.some.injEq] at hf;subst hf;exact single _ rfl h
  | rp=>simp only [flat,Option.some.injEq] at hf;subst hf;exact single _ rfl h
  | clo=>simp only [flat,Option.some.injEq] at hf;subst hf;exact single _ rfl h
theorem wp_of_value {a:Act} {w w':World} {u:Value} {K:Act→World→Prop} {Q:Exit→Act→World→Prop} (h:(execOp a.eval o).run P w = .ok (.value u) w') (hk:K (a.put o.dst u) w'):o.wp P a w K Q:=by
  unfold Oper.wp;rw [h];exact hk
theorem wp_of_skip {a:Act} {w w':World} {K:Act→World→Prop} {Q:Exit→Act→World→Prop} (h:(execOp a.eval o).run P w = .ok .skip w') (hk:K (a.put o.dst undef) w'):o.wp P a w K Q:=by
  unfold Oper.wp;rw [h];exact hk
theorem alloc_cells (w:World) (us:Array Value) (T:TypeId):(w.alloc (.cells us T)).heap[w.heap.size]? = some (.cells us T (0,0)):=heap_alloc_new w _
theorem next_box {k:Nat} {F:Nat→Prop} {base:Nat→Prop} {ρ:Nat→Option Value} {w0 w:World} {a:Act} {d:Nat} {T:TypeId} {cs:List V} {us:Array Value}
    (hH:HRel F base ρ st.heap st.next w0 w) (hE:ERel ρ (Stab F ρ st.heap) w st.nt st.env a) (hnn:ρ k=none) (hk:k<st.next) (hd:d<st.nt) (hn:us.size=cs.length)
    (hc:∀ j,j<cs.length→VRel ρ (Stab F ρ st.heap) w (cAt cs j) (us.getD j undef)∧(us.getD j undef).oneCell' = true) :
    NextAt k F base w0 ρ w (st.newAt k d (.ptr k 0 0 0) (.box T cs)) (a.put (some d) (.pointer (some ⟨w.heap.size,0,none⟩))) (w.alloc (.cells us T)):=by
  refine next_new hH hE hnn hk (below_alloc _ _) (fun _ b hb=>by simp only [blockOf,Option.some.injEq] at hb;omega) hd rfl (fun S hS _ hs=>?_) (fun S=>?_)
  · refine ⟨w.heap.size,us,upd_same _ _ _,hH.hbase _ (Nat.le_refl _),alloc_cells _ _ _,hn,fun j hj=>⟨(hc j hj).1.mono hs hS (fun id x h=>?_),(hc j hj).2⟩⟩
    rw [upd_ne _ _ (fun e=>by rw [e,hnn] at h;cases h)];exact h
  · have:=@VRel.ptr (upd ρ k (.pointer (some ⟨w.heap.size,0,none⟩))) S (w.alloc (.cells us T)) k 0 0 0 w.heap.size _ (upd_same _ _ _) rfl
    simpa using this
def zeroT (P:Program) (T:TypeId):Option (List V):=
  match P.info? T with
  | some i=>match i.zero with
    | some z=>bif z.cells.toList.all (fun u=>u.oneCell') then some (z.cells.toList.map .lit) else none
    | none=>none
  | none=>none
theorem lits_rel {ρ:Nat→Option Value} {S:Nat→Prop} {w:World} {us:Array Value} (h:us.toList.all (fun u=>u.oneCell')=true):us.size=(us.toList.map V.lit).length ∧ ∀ j,j<(us.toList.map V.lit).length→VRel ρ S w (cAt (us.toList.map V.lit) j) (us.getD j undef)∧(us.getD j undef).oneCell' = true:=by
  refine ⟨by simp,fun j hj=>?_⟩
  simp only [List.length_map,Array.length_toList] at hj
  have e1:cAt (us.toList.map V.lit) j = .lit (us.getD j undef):=by
    unfold cAt
    rw [List.getD_eq_getElem?_getD,List.getElem?_map,List.getElem?_eq_getElem (by simpa using hj)]
    simp [hj]
  have ho:(us.getD j undef).oneCell' = true:=by
    rw [List.all_eq_true] at h
    refine h _ ?_
    simp [hj]
  rw [e1]
  exact ⟨.pure (.lit _ ho),ho⟩
theorem zeroT_spec {T:TypeId} {cs:List V} (h:zeroT P T=some cs):∃ z:Value,cs=z.cells.toList.map .lit∧z.cells.toList.all (fun u=>u.oneCell')=true ∧ ∀ w,(zeroValue T).run P w = .ok z w:=by
  unfold zeroT at h
  split at h
  · rename_i i hi
    split at h
    · rename_i z hz
      cases hb:z.cells.toList.all (fun u=>u.oneCell') with
      | false=>rw [hb] at h;cases h
      | true=>
        rw [hb] at h
        simp only [cond_true,Option.some.injEq] at h
        exact ⟨z,h.symm,hb,fun w=>by simp [zeroValue,typeInfo,hi,hz,Sem.run_bind,Sem.run_pure,program,Sem.run]⟩
    · cases h
  · cases h
theorem run_newVar (T:TypeId) (v:Value) (w:World):(newVar T v).run P w = .ok ⟨w.heap.size,0,none⟩ (w.alloc (.cells v.cells T)):=by
  rfl
theorem a_alloc {k:Nat} {T:TypeId} {d:Nat} {cs:List V} (ho:o.op = .alloc T) (hd:o.dst=some d) (hdn:Nat.blt d st.nt=true) (hz:zeroT P T=some cs) :
    GAt P k o st (st.newAt k d (.ptr k 0 0 0) (.box T cs)):=fun F base w0 ρ a w hH hE hnn hk=>by
  obtain ⟨z,rfl,hz2,hz3⟩:=zeroT_spec hz
  obtain ⟨l1,l2⟩:=lits_rel (ρ:=ρ) (S:=Stab F ρ st.heap) (w:=w) hz2
  refine wp_of_value (u:=.pointer (some ⟨w.heap.size,0,none⟩)) (w':=w.alloc (.cells z.cells T)) ?_ ?_
  · unfold execOp;rw [ho]
    simp [Instr.alloc,Sem.run_bind,hz3,run_newVar]
  · rw [hd]
    exact next_box hH hE hnn hk (Nat.le_of_ble_eq_true hdn) l1 l2
theorem a_box {k:Nat} {T:TypeId} {x:Operand} {d:Nat} {v:V} {cs:List V} (ho:o.op = .box T x) (hd:o.dst=some d) (hdn:Nat.blt d st.nt=true) (hx:opE st.env x=some v) (hf:flat v=some cs) :
    GAt P k o st (st.newAt k d (.ptr k 0 0 0) (.box T cs)):=fun F base w0 ρ a w hH hE hnn hk=>by
  obtain ⟨l1,l2⟩:=flat_spec (opE_sound hE hx) hf (fun id x h=>(hH.sup id x h).2)
  refine wp_of_value (u:=.pointer (some ⟨w.heap.size,0,none⟩)) (w':=w.alloc (.cells (a.eval x).cells T)) ?_ ?_
  · unfold execOp;rw [ho]
    simp [Instr.box,run_newVar]
  · rw [hd]
    exact next_box hH hE hnn hk (Nat.le_of_ble_eq_true hdn) l1 l2
theorem g_alloc {T:TypeId} {d:Nat} {cs:List V} (ho:o.op = .alloc T) (hd:o.dst=some d) (hdn:Nat.blt d st.nt=true) (hn0:Nat.ble n0 st.next=true) (hz:zeroT P T=some cs) :
    GStep P n0 o st (st.new d (.ptr st.next 0 0 0) (.box T cs)):=gstep_of_at (Nat.le_of_ble_eq_true hn0) (a_alloc (st:={ st with next:=st.next+1 }) ho hd hdn hz)
theorem g_box {T:TypeId} {x:Operand} {d:Nat} {v:V} {cs:List V} (ho:o.op = .box T x) (hd:o.dst=some d) (hdn:Nat.blt d st.nt=true) (hn0:Nat.ble n0 st.next=true) (hx:opE st.env x=some v) (hf:flat v=some cs) :
    GStep P n0 o st (st.new d (.ptr st.next 0 0 0) (.box T cs)):=gstep_of_at (Nat.le_of_ble_eq_true hn0) (a_box (st:={ st with next:=st.next+1 }) ho hd hdn hx hf)
def setAt:Nat→List V→List V→List V
  | 0,[],cs=>cs
  | 0,v :: vs,_ :: cs=>v :: setAt 0 vs cs
  | n+1,vs,c :: cs=>c :: setAt n vs cs
  | _,_,[]=>[]
theorem length_setAt:∀ (n:Nat) (vs cs:List V),(setAt n vs cs).length=cs.length
  | 0,[],cs=>by simp [setAt]
  | 0,v :: vs,c :: cs=>by simp [setAt,length_setAt 0 vs cs]
  | n+1,vs,c :: cs=>by simp [setAt,length_setAt n vs cs]
  | 0,v :: vs,[]=>rfl
  | n+1,vs,[]=>rfl
theorem cAt_setAt:∀ (n:Nat) (vs cs:List V),n+vs.length≤cs.length → ∀ j,cAt (setAt n vs cs) j=if n≤j∧j<n+vs.length then cAt vs (j - n) else cAt cs j
  | 0,[],cs,_,j=>by simp [setAt]
  | 0,v :: vs,c :: cs,h,j=>by
    simp only [List.length_cons] at h
    cases j with
    | zero=>simp [setAt,cAt]
    | succ j=>
      have:=cAt_setAt 0 vs cs (by omega) j
      simp only [setAt]
      have e:cAt (v :: setAt 0 vs cs) (j+1)=cAt (setAt 0 vs cs) j:=by simp [cAt]
      rw [e,this]
      simp only [Nat.zero_le,true_and,Nat.zero_add,List.length_cons,Nat.sub_zero]
      have e2:cAt (v :: vs) (j+1)=cAt vs j:=by simp [cAt]
      have e3:cAt (c :: cs) (j+1)=cAt cs j:=by simp [cAt]
      rw [e2,e3]
      by_cases hh:j<vs.length
      · rw [if_pos hh,if_pos (by omega)]
      · rw [if_neg hh,if_neg (by omega)]
  | n+1,vs,c :: cs,h,j=>by
    simp only [List.length_cons] at h
    cases j with
    | zero=>simp [setAt,cAt]
    | succ j=>
      have:=cAt_setAt n vs cs (by omega) j
      simp only [setAt]
      have e:cAt (c :: setAt n vs cs) (j+1)=cAt (setAt n vs cs) j:=by simp [cAt]
      rw [e,this]
      have e3:cAt (c :: cs) (j+1)=cAt cs j:=by simp [cAt]
      rw [e3]
      by_cases hh:n≤j∧j<n+vs.length
      · rw [if_pos hh,if_pos (by omega)];congr 1;omega
      · rw [if_neg hh,if_neg (by omega)]
  | 0,v :: vs,[],h,j=>by simp at h
  | n+1,vs,[],h,j=>by simp at h
theorem run_store {T:TypeId} {n g off:Nat} {t:TypeId} {cur:Array Value} {u:Value} {w:World} (hT:sizeT P T=some n) (hn:u.cells.size=n) (hg:w.heap[g]? = some (.cells cur t (0,0))) (hl:off+n≤cur.size) (h1:∀ v ∈ u.cells.toList,v.oneCell' = true) :
    (Instr.storeAt T (.pointer (some ⟨g,off,none⟩)) u).run P w = .ok () (w.setRow g (cur.toList.take off++u.cells.toList++cur.toList.drop (off+n)).toArray):=by
  have hst:=run_storeCells_at P g off t u.cells.toList 0 cur w hg (by simp;omega) h1
  simp only [Nat.add_zero,Array.length_toList,hn] at hst
  simp [Instr.storeAt,Instr.sureAddr,storeVar,run_sizeT hT,hn,Sem.run_bind,hst]
theorem splice_get {us vs:Array Value} {off j:Nat} (h:off+vs.size≤us.size) (hj:j<us.size):((us.toList.take off++vs.toList++us.toList.drop (off+vs.size)).toArray).getD j undef=if off≤j∧j<off+vs.size then vs.getD (j - off) undef else us.getD j undef:=by
  simp only [Array.getD_eq_getD_getElem?,List.getElem?_toArray,List.append_assoc]
  by_cases h1:j<off
  · rw [List.getElem?_append_left (by simp;omega),if_neg (by omega),List.getElem?_take,if_pos h1];simp
  · rw [List.getElem?_append_right (by simp;omega)]
    have e:(us.toList.take off).length=off:=by simp;omega
    rw [e]
    by_cases h2:j<off+vs.size
    · rw [List.getElem?_append_left (by simp;omega),if_pos (by omega)];simp
    · rw [List.getElem?_append_right (by simp;omega),if_neg (by omega),List.getElem?_drop]
      have e2:off+vs.size+(j - off - vs.toList.length)=j:=by simp;omega
      rw [e2];simp
theorem splice_size {us vs:Array Value} {off:Nat} (h:off+vs.size≤us.size):((us.toList.take off++vs.toList++us.toList.drop (off+vs.size)).toArray).size=us.size:=by
  simp;omega
theorem setRow_grown (w:World) (g:Nat) (cs:Array Value):w.grownBy (w.setRow g cs) (some g):=⟨rfl,rfl,rfl,by simp,fun k _ hk=>setRow_other w g k cs (fun e=>hk (by rw [e]))⟩
theorem HRel.some_of {F:Nat→Prop} {base:Nat→Prop} {ρ:Nat→Option Value} {heap:List (Nat×Option Blk)} {next:Nat} {w0 w:World} (h:HRel F base ρ heap next w0 w) {id:Nat} {B:Blk} (hB:getH heap id=some B):∃ u,ρ id=some u:=by
  have:=h.blk _ _ hB
  cases B with
  | box t cs=>obtain ⟨b,us,h1,_⟩:=this;exact ⟨_,h1⟩
  | row e s l=>obtain ⟨_,v,xs,h1,_⟩:=this;exact ⟨_,h1⟩
  | fro l=>obtain ⟨v,h1,_⟩:=this;exact ⟨_,h1⟩
  | map q es=>obtain ⟨b,_,_,h1,_⟩:=this;exact ⟨_,h1⟩
  | obj o=>obtain ⟨b,h1,_⟩:=this;exact ⟨_,h1⟩
  | brow be bl=>obtain ⟨b,_,_,_,h1,_⟩:=this;exact ⟨_,h1⟩
  | rox e s l=>obtain ⟨_,v,xs,h1,_⟩:=this;exact ⟨_,h1⟩
  | fmap q es=>obtain ⟨b,_,_,h1,_⟩:=this;exact ⟨_,h1⟩
  | iter left cur=>obtain ⟨r,_,_,_,_,_,_,h1,_⟩:=this;exact ⟨_,h1⟩
theorem g_store_box {T:TypeId} {x y:Operand} {id s j t:Nat} {cs vs:List V} {v:V} (ho:o.op = .store T x y) (hd:o.dst=none) (hx:opE st.env x=some (.ptr id 0 s j)) (hh:getH st.heap id=some (.box t cs)) (hy:opE st.env y=some v)
    (hf:flat v=some vs) (hT:sizeT P T=some vs.length) (hl:Nat.ble (j+vs.length) cs.length=true) :
    GStep P n0 o st { st with heap:=(id,some (.box t (setAt j vs cs))) :: st.heap }:=fun F base w0 ρ a w hH hE=>by
  have hl:=Nat.le_of_ble_eq_true hl
  obtain ⟨r,b,h1,h2,h3⟩:=ptr_inv (opE_sound hE hx)
  obtain ⟨b',us,e1,e2,e3,e4,e5⟩:=hH.blk _ _ hh
  rw [h1] at e1;injection e1 with e1;subst e1
  simp only [blockOf,Option.some.injEq] at h2
  subst h2
  obtain ⟨l1,l2⟩:=flat_spec (opE_sound hE hy) hf (fun id x h=>(hH.sup id x h).2)
  have hone:∀ v ∈ (a.eval y).cells.toList,v.oneCell' = true:=fun v hv=>by
    obtain ⟨i,hi,rfl⟩:=List.getElem_of_mem hv
    simp only [Array.length_toList] at hi
    have:=(l2 i (by omega)).2
    simpa [hi] using this
  have hrun:=run_store (P:=P) (T:=T) (n:=vs.length) (g:=b') (off:=j) hT l1 e3 (by omega) hone
  have hlt:=(Array.getElem?_eq_some_iff.1 e3).1
  have hns:¬ Stab F ρ st.heap b':=fun hs=>hs.2 id _ _ hh rfl h1 rfl
  refine wp_of_skip (w':=w.setRow b' (us.toList.take j++(a.eval y).cells.toList++us.toList.drop (j+vs.length)).toArray) ?_ ?_
  · unfold execOp;rw [ho]
    simp only [h3,Nat.zero_mul,Nat.zero_add,Sem.run_bind,hrun];rfl
  · rw [hd]
    have hsz:=splice_size (us:=us) (vs:=(a.eval y).cells) (off:=j) (by omega)
    have hgt:=fun i=>splice_get (us:=us) (vs:=(a.eval y).cells) (off:=j) (j:=i) (by omega)
    rw [l1] at hsz hgt
    generalize (us.toList.take j++(a.eval y).cells.toList++us.toList.drop (j+vs.length)).toArray=N at hsz hgt ⊢
    obtain ⟨q1,q2,q3⟩:=hH.step (ρ':=ρ) (heap':=(id,some (.box t (setAt j vs cs))) :: st.heap) (next':=st.next) id (some b') (setRow_grown w b' N)
      (fun k hk=>by injection hk with hk;subst hk;exact ⟨e2,hns⟩) (fun _ _ h=>h) (fun id u h=>hH.sup id u h)
      (fun i B hne hB=>by
        rw [getH_new,if_neg (Ne.symm hne)] at hB
        refine ⟨hB,?_⟩
        obtain ⟨u,hu⟩:=hH.some_of hB
        exact ⟨u,hu,fun ho b hb e=>by injection e with e;subst e;exact hne (hH.inj i id B _ u _ b' hB hh ho rfl hu h1 hb rfl)⟩)
      (fun B u b hB ho hu hb=>by
        rw [h1] at hu;injection hu with hu;subst hu
        simp only [blockOf,Option.some.injEq] at hb;subst hb
        refine .inr ⟨hns,fun i B' u' hne hB' ho' hu' hb'=>?_⟩
        rw [getH_new,if_neg (Ne.symm hne)] at hB'
        exact hne (hH.inj i id B' _ u' _ b' hB' hh ho' rfl hu' h1 hb' rfl))
      (fun B hB hS hsame=>by
        rw [getH_new,if_pos rfl] at hB;injection hB with hB;subst hB
        refine ⟨b',_,h1,e2,setRow_heap w b' us _ t _ e3,by rw [length_setAt];omega,fun i hi=>?_⟩
        rw [length_setAt] at hi
        rw [cAt_setAt _ _ _ hl,hgt i (by omega)]
        by_cases hij:j≤i∧i<j+vs.length
        · rw [if_pos hij,if_pos hij]
          have:=l2 (i - j) (by omega)
          exact ⟨this.1.mono hsame hS (fun _ _ h=>h),this.2⟩
        · rw [if_neg hij,if_neg hij]
          exact ⟨(e5 i hi).1.mono hsame hS (fun _ _ h=>h),(e5 i hi).2⟩)
    exact ⟨ρ,q1,hE.mono q2 q3 (fun _ _ h=>h),fun _ _ h=>h,fun _ _=>rfl⟩
def pureV:V→Bool
  | .lit _=>true
  | .ro _=>true
  | _=>false
theorem pure_rel {ρ:Nat→Option Value} {S:Nat→Prop} {w:World} {v:V} {u:Value} (h:VRel ρ S w v u) (hp:pureV v=true):PRel S w v u:=by
  cases h with
  | pure h=>exact h
  | _=>cases hp
theorem g_store_row {T:TypeId} {x y:Operand} {id i j e s:Nat} {l:List (List V)} {vs:List V} {v:V} (ho:o.op = .store T x y) (hd:o.dst=none) (hx:opE st.env x=some (.ptr id i s j)) (hh:getH st.heap id=some (.row e s l)) (hi:i<l.length) (hy:opE st.env y=some v)
    (hf:flat v=some vs) (hp:vs.all pureV=true) (hT:sizeT P T=some vs.length) (hl:Nat.ble (j+vs.length) s=true) :
    GStep P n0 o st { st with heap:=(id,some (.row e s (l.set i (setAt j vs (eAt l i))))) :: st.heap }:=fun F base w0 ρ a w hH hE=>by
  have hl:=Nat.le_of_ble_eq_true hl
  obtain ⟨r,b,h1,h2,h3⟩:=ptr_inv (opE_sound hE hx)
  obtain ⟨hs0,v',xs,e1,⟨e2,e2b⟩,e3,e4⟩:=hH.blk _ _ hh
  rw [h1] at e1;injection e1 with e1;subst e1
  obtain ⟨hxl,hcase⟩:=e2
  rcases hcase with ⟨rfl,_⟩ | ⟨g,cap,cur,rfl,hbg,hg,hnc,hcm,hcs,htake⟩
  · simp [blockOf] at h2
  simp only [blockOf,Option.some.injEq] at h2
  subst h2
  obtain ⟨l1,l2⟩:=flat_spec (opE_sound hE hy) hf (fun id x h=>(hH.sup id x h).2)
  have hone:∀ v ∈ (a.eval y).cells.toList,v.oneCell' = true:=fun v hv=>by
    obtain ⟨i,hi,rfl⟩:=List.getElem_of_mem hv
    simp only [Array.length_toList] at hi
    have:=(l2 i (by omega)).2
    simpa [hi] using this
  have hlen:(eAt l i).length=s:=e3 i hi
  have hmul:(i+1) * s≤l.length * s:=Nat.mul_le_mul_right s hi
  have hmul2:l.length * s≤cap * s:=Nat.mul_le_mul_right s hnc
  have hmul3:(i+1) * s=i * s+s:=Nat.succ_mul i s
  have hrun:=run_store (P:=P) (T:=T) (n:=vs.length) (g:=g) (off:=i * s+j) hT l1 hg (by omega) hone
  have hlt:=(Array.getElem?_eq_some_iff.1 hg).1
  have hns:¬ Stab F ρ st.heap g:=fun hs=>hs.2 id _ _ hh rfl h1 rfl
  refine wp_of_skip (w':=w.setRow g (cur.toList.take (i * s+j)++(a.eval y).cells.toList++cur.toList.drop (i * s+j+vs.length)).toArray) ?_ ?_
  · unfold execOp;rw [ho]
    simp only [h3,Sem.run_bind,hrun];rfl
  · rw [hd]
    have hsz:=splice_size (us:=cur) (vs:=(a.eval y).cells) (off:=i * s+j) (by omega)
    have hgt:=fun k=>splice_get (us:=cur) (vs:=(a.eval y).cells) (off:=i * s+j) (j:=k) (by omega)
    rw [l1] at hsz hgt
    generalize (cur.toList.take (i * s+j)++(a.eval y).cells.toList++cur.toList.drop (i * s+j+vs.length)).toArray=N at hsz hgt ⊢
    obtain ⟨q1,q2,q3⟩:=hH.step (ρ':=ρ) (heap':=(id,some (.row e s (l.set i (setAt j vs (eAt l i))))) :: st.heap) (next':=st.next) id (some g) (setRow_grown w g N)
      (fun k hk=>by injection hk with hk;subst hk;exact ⟨e2b _ rfl,hns⟩) (fun _ _ h=>h) (fun id u h=>hH.sup id u h)
      (fun i B hne hB=>by
        rw [getH_new,if_neg (Ne.symm hne)] at hB
        refine ⟨hB,?_⟩
        obtain ⟨u,hu⟩:=hH.some_of hB
        exact ⟨u,hu,fun ho b hb e=>by injection e with e;subst e;exact hne (hH.inj i id B _ u _ g hB hh ho rfl hu h1 hb rfl)⟩)
      (fun B u b hB ho hu hb=>by
        rw [h1] at hu;injection hu with hu;subst hu
        simp only [blockOf,Option.some.injEq] at hb;subst hb
        refine .inr ⟨hns,fun i B' u' hne hB' ho' hu' hb'=>?_⟩
        rw [getH_new,if_neg (Ne.symm hne)] at hB'
        exact hne (hH.inj i id B' _ u' _ g hB' hh ho' rfl hu' h1 hb' rfl))
      (fun B hB hS hsame=>by
        rw [getH_new,if_pos rfl] at hB;injection hB with hB;subst hB
        have hlset:(l.set i (setAt j vs (eAt l i))).length=l.length:=by simp
        have heAt:∀ k,eAt (l.set i (setAt j vs (eAt l i))) k=if i=k then setAt j vs (eAt l i) else eAt l k:=fun k=>by
          unfold eAt
          rw [List.getD_eq_getElem?_getD,List.getD_eq_getElem?_getD,List.getD_eq_getElem?_getD,List.getElem?_set]
          by_cases hik:i=k
          · subst hik;simp [hi]
          · simp [hik]
        refine ⟨hs0,_,N.toList.take (l.length * s),h1,⟨⟨by rw [hlset];simp;omega,.inr ⟨g,cap,N,by rw [hlset],hbg,setRow_heap w g cur N e _ hg,by rw [hlset];exact hnc,hcm,by omega,by rw [hlset]⟩⟩,e2b⟩,fun k hk=>?_,fun k c hk hc=>?_⟩
        · rw [heAt];rw [hlset] at hk
          by_cases hik:i=k
          · rw [if_pos hik,length_setAt];exact hlen
          · rw [if_neg hik];exact e3 k hk
        · rw [hlset] at hk
          have hk1:(k+1) * s≤l.length * s:=Nat.mul_le_mul_right s hk
          have hk3:(k+1) * s=k * s+s:=Nat.succ_mul k s
          have hin:(N.toList.take (l.length * s))[k * s+c]? = some (N.getD (k * s+c) undef):=by
            rw [List.getElem?_take,if_pos (by omega)]
            simp [show k * s+c<N.size by omega]
          refine ⟨_,hin,?_⟩
          rw [heAt,hgt (k * s+c) (by omega)]
          obtain ⟨u0,hu0,hp0,ho0⟩:=e4 k c hk hc
          have hu0':cur.getD (k * s+c) undef=u0:=by
            rw [← htake,List.getElem?_take,if_pos (by omega)] at hu0
            simp only [Array.getElem?_toList] at hu0
            rw [Array.getD_eq_getD_getElem?,hu0];rfl
          by_cases hik:i=k
          · subst hik
            rw [if_pos rfl,cAt_setAt _ _ _ (by omega)]
            by_cases hjc:j≤c∧c<j+vs.length
            · rw [if_pos hjc,if_pos (by omega),show i * s+c - (i * s+j)=c - j by omega]
              have hq:=l2 (c - j) (by omega)
              refine ⟨(pure_rel hq.1 ?_).mono hsame hS,hq.2⟩
              rw [List.all_eq_true] at hp
              refine hp _ ?_
              unfold cAt
              rw [List.getD_eq_getElem?_getD,List.getElem?_eq_getElem (by omega)]
              exact List.getElem_mem _
            · rw [if_neg hjc,if_neg (by omega),hu0']
              exact ⟨hp0.mono hsame hS,ho0⟩
          · rw [if_neg hik]
            have hdis:¬ (i * s+j≤k * s+c∧k * s+c<i * s+j+vs.length):=by
              rintro ⟨g1,g2⟩
              rcases Nat.lt_or_gt_of_ne hik with hh|hh
              · have:(i+1) * s≤k * s:=Nat.mul_le_mul_right s hh
                omega
              · have:(k+1) * s≤i * s:=Nat.mul_le_mul_right s hh
                omega
            rw [if_neg hdis,hu0']
            exact ⟨hp0.mono hsame hS,ho0⟩)
    exact ⟨ρ,q1,hE.mono q2 q3 (fun _ _ h=>h),fun _ _ h=>h,fun _ _=>rfl⟩
end
end Go.Proofs.YtendheafcbickaaGreat
end
section
namespace Go.Proofs.YtendheafcbickaaGreat
open Go.RowKit
section
variable {P:Program} {n0:Nat}
def Post (n0:Nat) (F:Nat→Prop) (base:Nat→Prop) (w0:World) (ρ:Nat→Option Value) (Q:Exit→St→Prop) (e:Exit) (a:Act) (w:World):Prop:=
  ∃ ρ' st,Q e st∧HRel F base ρ' st.heap st.next w0 w∧ERel ρ' (Stab F ρ' st.heap) w st.nt st.env a ∧ ∀ id,id<n0→ρ' id=ρ id
def Run (P:Program) (n0:Nat) (c:Code) (st:St) (Q:Exit→St→Prop):Prop:=
  ∀ F base w0 ρ a w,HRel F base ρ st.heap st.next w0 w→ERel ρ (Stab F ρ st.heap) w st.nt st.env a→c.wp P (Post n0 F base w0 ρ Q) a w
def NQ (Q:St→Prop) (e:Exit) (st:St):Prop:=e = .normal∧Q st
def RunL (P:Program) (n0:Nat) (ops:Array Oper) (l:List Oper) (st:St) (Q:St→Prop):Prop:=
  ∀ F base w0 ρ a w,HRel F base ρ st.heap st.next w0 w→ERel ρ (Stab F ρ st.heap) w st.nt st.env a→wpList P ops (Post n0 F base w0 ρ (NQ Q)) l a w
theorem Post.trans {F:Nat→Prop} {base:Nat→Prop} {w0:World} {ρ ρ':Nat→Option Value} {Q:Exit→St→Prop} {e:Exit} {a:Act} {w:World} (hρ:∀ id,id<n0→ρ' id=ρ id) (h:Post n0 F base w0 ρ' Q e a w):Post n0 F base w0 ρ Q e a w:=
  let ⟨ρ'',st,h1,h2,h3,h4⟩:=h
  ⟨ρ'',st,h1,h2,h3,fun id hid=>(h4 id hid).trans (hρ id hid)⟩
theorem Post.mono {F:Nat→Prop} {base:Nat→Prop} {w0:World} {ρ:Nat→Option Value} {Q Q':Exit→St→Prop} (hQ:∀ e st,Q e st→Q' e st) {e:Exit} {a:Act} {w:World} (h:Post n0 F base w0 ρ Q e a w):Post n0 F base w0 ρ Q' e a w:=
  let ⟨ρ'',st,h1,h2,h3,h4⟩:=h
  ⟨ρ'',st,hQ _ _ h1,h2,h3,h4⟩
theorem upon_mono {o:Oper} {a:Act} {w:World} {K K':Act→World→Prop} {Q Q':Exit→Act→World→Prop} (h:∀ a w,K a w→K' a w) (hQ:∀ e a w,Q e a w→Q' e a w) (hh:o.wp P a w K Q):o.wp P a w K' Q':=by
  unfold Oper.wp at *
  generalize (execOp a.eval o).run P w=r at *
  cases r with
  | ok n w'=>
    cases n <;> simp only [Oper.upon] at hh ⊢ <;>
      first
        | exact h _ _ hh
        | exact Calls.mono hh (fun e w'' he=>by cases e <;> first|exact h _ _ he|exact hQ _ _ _ he|(obtain ⟨a,w,he⟩:=he;exact ⟨a,w,hQ _ _ _ he⟩))
        | exact Rows.mono hh (fun _ _ he=>h _ _ he)
  | halt x w'=>cases x <;> simp only [Oper.upon] at hh ⊢ <;> first|exact hQ _ _ _ hh|exact hh
theorem wpList_mono {ops:Array Oper} {Q Q':Exit→Act→World→Prop} (hQ:∀ e a w,Q e a w→Q' e a w):∀ (l:List Oper) (a:Act) (w:World),wpList P ops Q l a w→wpList P ops Q' l a w
  | [],_,_,h=>hQ _ _ _ h
  | o :: rest,a,w,h=>by
    unfold wpList at h ⊢
    split
    · rename_i hw
      rw [if_pos hw] at h
      rcases h with h | ⟨h1,a,w,h2⟩
      · exact .inl (upon_mono (wpList_mono hQ rest) hQ h)
      · exact .inr ⟨h1,a,w,hQ _ _ _ h2⟩
    · rename_i hw
      rw [if_neg hw] at h
      exact wpList_mono hQ rest _ _ h
def guardV (env:List (Nat×V)) (ops:List Oper):Option (Nat×Bool)→Option Bool
  | none=>some true
  | some (j,b)=>match ops[j]? with
    | some oj=>match oj.dst with
      | some d=>match getE env d with
        | some (.lit (.bool b'))=>some (bif b then b' else !b')
        | some .und=>some false
        | _=>none
      | none=>none
    | none=>none
theorem und_inv {ρ:Nat→Option Value} {S:Nat→Prop} {w:World} {u:Value} (h:VRel ρ S w .und u):u=undef:=by
  cases h with
  | pure h=>cases h
  | und=>rfl
theorem guardV_spec {ρ:Nat→Option Value} {S:Nat→Prop} {w:World} {nt:Nat} {env:List (Nat×V)} {a:Act} (hE:ERel ρ S w nt env a) {ops:List Oper} {o:Oper} {b:Bool} (h:guardV env ops o.guard=some b) :
    Region.wanted o (yielded ops.toArray a.tmps)=b:=by
  unfold Region.wanted
  cases hg:o.guard with
  | none=>rw [hg] at h;simp only [guardV,Option.some.injEq] at h;exact h
  | some jb=>
    obtain ⟨j,want⟩:=jb
    rw [hg] at h
    simp only [guardV] at h
    unfold yielded
    cases hj:ops[j]? with
    | none=>rw [hj] at h;cases h
    | some oj=>
      simp only [hj] at h
      simp only [List.getElem?_toArray,hj,Option.bind_some]
      cases hd:oj.dst with
      | none=>simp only [hd] at h;cases h
      | some d=>
        simp only [hd] at h
        simp only [Option.bind_some]
        cases he:getE env d with
        | none=>simp only [he] at h;cases h
        | some v=>
          simp only [he] at h
          have hv:=hE.slot d v he
          cases v with
          | lit u=>
            cases u with
            | bool b'=>
              have e:=lit_inv hv
              have:a.tmps[d]? = some (.bool b'):=by
                rw [Array.getD_eq_getD_getElem?] at e
                cases h3:a.tmps[d]? with
                | none=>rw [h3] at e;simp [undef] at e
                | some x=>rw [h3] at e;simp at e;rw [e]
              rw [this]
              simp only [Option.some.injEq] at h
              subst h
              cases want <;> cases b' <;> rfl
            | _=>cases h
          | und=>
            simp only [Option.some.injEq] at h
            subst h
            have e:a.tmps.getD d undef=undef:=und_inv hv
            rw [Array.getD_eq_getD_getElem?] at e
            cases h3:a.tmps[d]? with
            | none=>rfl
            | some x=>rw [h3] at e;simp at e;rw [e];rfl
          | _=>cases h
def dstOk (nt:Nat):Option Tmp→Bool
  | some d=>Nat.blt d nt
  | none=>true
theorem ERel.putD {ρ:Nat→Option Value} {S:Nat→Prop} {w:World} {a:Act} {st:St} (h:ERel ρ S w st.nt st.env a) {d:Option Tmp} (hd:dstOk st.nt d=true) {v:V} {u:Value} (hv:VRel ρ S w v u) :
    ERel ρ S w (st.put d v).nt (st.put d v).env (a.put d u):=by
  cases d with
  | none=>exact h
  | some d=>exact h.put (Nat.le_of_ble_eq_true hd) hv
theorem put_heap (st:St) (d:Option Tmp) (v:V):(st.put d v).heap=st.heap∧(st.put d v).next=st.next:=by cases d <;> exact ⟨rfl,rfl⟩
theorem l_nil {ops:Array Oper} {st:St} {Q:St→Prop} (h:Q st):RunL P n0 ops [] st Q:=
  fun F base w0 ρ a w hH hE=>⟨ρ,st,⟨rfl,h⟩,hH,hE,fun _ _=>rfl⟩
theorem l_skip {ops:List Oper} {o:Oper} {rest:List Oper} {st:St} {Q:St→Prop} (hg:guardV st.env ops o.guard=some false) (hd:dstOk st.nt o.dst=true) (h:RunL P n0 ops.toArray rest (st.put o.dst .und) Q):RunL P n0 ops.toArray (o :: rest) st Q:=
  fun F base w0 ρ a w hH hE=>wpList_step fun K hK=>by
    rw [if_neg (by rw [guardV_spec hE hg];exact Bool.false_ne_true)]
    obtain ⟨e1,e2⟩:=put_heap st o.dst .und
    exact hK _ _ (h F base w0 ρ _ w (by rw [e1,e2];exact hH) (by rw [e1];exact hE.putD hd .und))
theorem l_q {ops:List Oper} {o:Oper} {rest:List Oper} {st:St} {Q:St→Prop} {v:V} (hg:guardV st.env ops o.guard=some true) (hd:dstOk st.nt o.dst=true) (hq:QStep P [] o st v) (h:RunL P n0 ops.toArray rest (st.put o.dst v) Q):RunL P n0 ops.toArray (o :: rest) st Q:=
  fun F base w0 ρ a w hH hE=>wpList_step fun K hK=>by
    rw [if_pos (guardV_spec hE hg)]
    obtain ⟨u,h1,h2⟩:=hq F base w0 ρ a w hH.toHRel0 hE rfl
    obtain ⟨e1,e2⟩:=put_heap st o.dst v
    exact wp_of_value (h2 w (Ext.refl _ _)) (hK _ _ (h F base w0 ρ _ w (by rw [e1,e2];exact hH) (by rw [e1];exact hE.putD hd h1)))
theorem l_g {ops:List Oper} {o:Oper} {rest:List Oper} {st st':St} {Q:St→Prop} (hg:guardV st.env ops o.guard=some true) (hs:GStep P n0 o st st') (h:RunL P n0 ops.toArray rest st' Q):RunL P n0 ops.toArray (o :: rest) st Q:=
  fun F base w0 ρ a w hH hE=>wpList_step fun K hK=>by
    rw [if_pos (guardV_spec hE hg)]
    refine upon_mono (fun a' w' h'=>?_) (fun e a w h=>h.elim) (hs F base w0 ρ a w hH hE)
    obtain ⟨ρ',h1,h2,h3,h4⟩:=h'
    refine hK _ _ ?_
    have:=h F base w0 ρ' a' w' h1 h2
    exact wpList_mono (fun e a w hp=>Post.trans h4 hp) _ _ _ this
def Less (P:Program) (n0:Nat) (st st':St):Prop:=∀ F base w0 ρ a w,HRel F base ρ st.heap st.next w0 w→ERel ρ (Stab F ρ st.heap) w st.nt st.env a →
  ∃ ρ',HRel F base ρ' st'.heap st'.next w0 w∧ERel ρ' (Stab F ρ' st'.heap) w st'.nt st'.env a ∧ ∀ id,id<n0→ρ' id=ρ id
theorem r_less {c:Code} {st st':St} {Q:Exit→St→Prop} (hl:Less P n0 st st') (h:Run P n0 c st' Q):Run P n0 c st Q:=
  fun F base w0 ρ a w hH hE=>by
    obtain ⟨ρ',h1,h2,h3⟩:=hl F base w0 ρ a w hH hE
    exact wp_mono (h F base w0 ρ' a w h1 h2) (fun e a w hp=>Post.trans h3 hp)
theorem r_mono {c:Code} {st:St} {Q Q':Exit→St→Prop} (h:Run P n0 c st Q) (hq:∀ e st,Q e st→Q' e st):Run P n0 c st Q':=
  fun F base w0 ρ a w hH hE=>wp_mono (h F base w0 ρ a w hH hE) (fun e a w hp=>Post.mono hq hp)
theorem r_region {id:Nat} {l:List Oper} {st:St} {Q:Exit→St→Prop} (h:RunL P n0 l.toArray l st (Q .normal)):Run P n0 (.region id l.toArray false) st Q:=
  fun F base w0 ρ a w hH hE=>wp_region_lit (wpList_mono (fun e a w hp=>Post.mono (fun e st h=>by obtain ⟨rfl,h⟩:=h;exact h) hp) _ _ _ (h F base w0 ρ a w hH hE))
theorem r_skip {st:St} {Q:Exit→St→Prop} (h:Q .normal st):Run P n0 .skip st Q:=fun F base w0 ρ a w hH hE=>wp_skip ⟨ρ,st,h,hH,hE,fun _ _=>rfl⟩
theorem r_ret {st:St} {Q:Exit→St→Prop} (h:Q .ret st):Run P n0 .ret st Q:=fun F base w0 ρ a w hH hE=>wp_ret ⟨ρ,st,h,hH,hE,fun _ _=>rfl⟩
theorem r_exit {id:Nat} {st:St} {Q:Exit→St→Prop} (h:Q (.exit id) st):Run P n0 (.exit id) st Q:=fun F base w0 ρ a w hH hE=>wp_exit ⟨ρ,st,h,hH,hE,fun _ _=>rfl⟩
def ThenQ (next:St→Prop) (Q:Exit→St→Prop):Exit→St→Prop
  | .normal,st=>next st
  | e,st=>Q e st
theorem r_seq {x y:Code} {st:St} {Q:Exit→St→Prop} (h:Run P n0 x st (ThenQ (fun st'=>Run P n0 y st' Q) Q)):Run P n0 (.seq x y) st Q:=
  fun F base w0 ρ a w hH hE=>wp_seq (wp_mono (h F base w0 ρ a w hH hE) (fun e a' w' hp=>by
    obtain ⟨ρ',st',h1,h2,h3,h4⟩:=hp
    cases e with
    | normal=>exact wp_mono (h1 F base w0 ρ' a' w' h2 h3) (fun e a w hp=>Post.trans h4 hp)
    | _=>exact ⟨ρ',st',h1,h2,h3,h4⟩))
def BlockQ (id:Nat) (Q:Exit→St→Prop):Exit→St→Prop
  | .exit i,st=>bif Nat.beq i id then Q .normal st else Q (.exit i) st
  | e,st=>Q e st
theorem r_block {id:Nat} {c:Code} {st:St} {Q:Exit→St→Prop} (h:Run P n0 c st (BlockQ id Q)):Run P n0 (.block id c) st Q:=
  fun F base w0 ρ a w hH hE=>wp_block (wp_mono (h F base w0 ρ a w hH hE) (fun e a' w' hp=>by
    obtain ⟨ρ',st',h1,h2,h3,h4⟩:=hp
    cases e with
    | exit i=>
      simp only [Exit.inBlock]
      simp only [BlockQ] at h1
      split
      · rename_i hi
        subst hi
        simp only [Nat.beq_refl,cond_true] at h1
        exact ⟨ρ',st',h1,h2,h3,h4⟩
      · rename_i hi
        have hb:Nat.beq i id=false:=by
          cases hb:Nat.beq i id
          · rfl
          · exact absurd (Nat.eq_of_beq_eq_true hb) hi
        rw [hb] at h1
        exact ⟨ρ',st',h1,h2,h3,h4⟩
    | _=>exact ⟨ρ',st',h1,h2,h3,h4⟩))
theorem r_cond {c:Operand} {x y:Code} {st:St} {Q:Exit→St→Prop} {b:Bool} (hc:opE st.env c=some (.lit (.bool b))) (ht:b=true→Run P n0 x st Q) (hf:b=false→Run P n0 y st Q):Run P n0 (.cond c x y) st Q:=
  fun F base w0 ρ a w hH hE=>by
    refine wp_cond_split (lit_inv (opE_sound hE hc)) (fun h=>ht h F base w0 ρ a w hH hE) (fun h=>hf h F base w0 ρ a w hH hE)
theorem r_cond_t {c:Operand} {x y:Code} {st:St} {Q:Exit→St→Prop} (hc:opE st.env c=some (.lit (.bool true))) (h:Run P n0 x st Q):Run P n0 (.cond c x y) st Q:=r_cond hc (fun _=>h) (fun h=>by cases h)
theorem r_cond_f {c:Operand} {x y:Code} {st:St} {Q:Exit→St→Prop} (hc:opE st.env c=some (.lit (.bool false))) (h:Run P n0 y st Q):Run P n0 (.cond c x y) st Q:=r_cond hc (fun h=>by cases h) (fun _=>h)
theorem r_loop {X:Type} {c:Code} {st:St} {Q:Exit→St→Prop} (σ:X→St) (μ:X→Nat) (x0:X) (h0:Less P n0 st (σ x0))
    (round:∀ x,Run P n0 c (σ x) (ThenQ (fun st'=>∃ x',μ x' < μ x∧Less P n0 st' (σ x')) Q)):Run P n0 (.loop c) st Q:=by
  refine r_less h0 ?_
  intro F base w0 ρ a w hH hE
  refine wp_loop_ghost (fun n a w=>∃ x ρ',μ x=n∧HRel F base ρ' (σ x).heap (σ x).next w0 w∧ERel ρ' (Stab F ρ' (σ x).heap) w (σ x).nt (σ x).env a ∧ ∀ id,id<n0→ρ' id=ρ id) (μ x0) ⟨x0,ρ,rfl,hH,hE,fun _ _=>rfl⟩ ?_
  rintro n a w ⟨x,ρ',rfl,h1,h2,h3⟩
  refine wp_mono (round x F base w0 ρ' a w h1 h2) (fun e a' w' hp=>?_)
  obtain ⟨ρ'',st',q1,q2,q3,q4⟩:=hp
  cases e with
  | normal=>
    obtain ⟨x',hx',hl⟩:=q1
    obtain ⟨ρ3,g1,g2,g3⟩:=hl F base w0 ρ'' a' w' q2 q3
    exact ⟨μ x',hx',x',ρ3,rfl,g1,g2,fun id hid=>(g3 id hid).trans ((q4 id hid).trans (h3 id hid))⟩
  | _=>exact ⟨ρ'',st',q1,q2,q3,fun id hid=>(q4 id hid).trans (h3 id hid)⟩
def coverE (env:List (Nat×V)):List (Nat×V)→Prop
  | []=>True
  | (t,v) :: r=>getE env t=some v∧coverE env r
theorem coverE_spec {env:List (Nat×V)}:∀ {e:List (Nat×V)},coverE env e → ∀ t v,getE e t=some v→getE env t=some v
  | [],_,t,v,h=>by simp [getE] at h
  | (s,u) :: r,hc,t,v,h=>by
    simp only [getE] at h
    cases hb:Nat.beq s t with
    | true=>rw [hb] at h;simp only [cond_true,Option.some.injEq] at h;rw [← h,← Nat.eq_of_beq_eq_true hb];exact hc.1
    | false=>rw [hb] at h;exact coverE_spec hc.2 t v h
theorem Less.refl (st:St):Less P n0 st st:=fun F base w0 ρ a w hH hE=>⟨ρ,hH,hE,fun _ _=>rfl⟩
theorem Less.trans {s1 s2 s3:St} (h:Less P n0 s1 s2) (k:Less P n0 s2 s3):Less P n0 s1 s3:=fun F base w0 ρ a w hH hE=>by
  obtain ⟨ρ',h1,h2,h3⟩:=h F base w0 ρ a w hH hE
  obtain ⟨ρ'',k1,k2,k3⟩:=k F base w0 ρ' a w h1 h2
  exact ⟨ρ'',k1,k2,fun id hid=>(k3 id hid).trans (h3 id hid)⟩
def coverH (heap:List (Nat×Option Blk)):List (Nat×Option Blk)→Prop
  | []=>True
  | (t,none) :: r=>coverH heap r
  | (t,some v) :: r=>getH heap t=some v∧coverH heap r
theorem coverH_spec {heap:List (Nat×Option Blk)}:∀ {e:List (Nat×Option Blk)},coverH heap e → ∀ t v,getH e t=some v→getH heap t=some v
  | [],_,t,v,h=>by simp [getH] at h
  | (s,none) :: r,hc,t,v,h=>by
    rw [getH_new] at h
    split at h
    · cases h
    · exact coverH_spec (e:=r) hc t v h
  | (s,some u) :: r,hc,t,v,h=>by
    rw [getH_new] at h
    split at h
    · rename_i e;subst e;injection h with h;subst h;exact hc.1
    · exact coverH_spec (e:=r) hc.2 t v h
theorem less_heap {st st':St} (h2:st'.next=st.next) (h3:st'.nt=st.nt) (hc:coverE st.env st'.env) (hh:coverH st.heap st'.heap):Less P n0 st st':=
  fun F base w0 ρ a w hH hE=>by
    have hs:∀ b,Stab F ρ st.heap b→Stab F ρ st'.heap b:=fun b h=>⟨h.1,fun id B u hB ho hu=>h.2 id B u (coverH_spec hh id B hB) ho hu⟩
    refine ⟨ρ,⟨⟨hH.below,hH.hbase,by rw [h2];exact hH.sup,fun id id' B B' u u' b hB hB'=>hH.inj id id' B B' u u' b (coverH_spec hh _ _ hB) (coverH_spec hh _ _ hB'),fun id B hB=>?_⟩,hH.hF⟩,⟨by rw [h3];exact hE.size,hE.defers,fun t v hv=>?_⟩,fun _ _=>rfl⟩
    · exact (hH.blk id B (coverH_spec hh id B hB)).mono (Same.refl _ _) (fun b h _=>hs b h) (fun _ _ h=>h) (fun _ _ _ _ _ _=>rfl)
    · exact (hE.slot t v (coverE_spec hc t v hv)).mono (Same.refl _ _) (fun b h _=>hs b h) (fun _ _ h=>h)
def belowV (n:Nat):V→Bool
  | .own id=>Nat.blt id n
  | .ptr id _ _ _=>Nat.blt id n
  | .agg cs=>belowL n cs
  | .tup cs=>belowL n cs
  | .clo _ cs=>belowL n cs
  | _=>true
where belowL (n:Nat):List V→Bool
  | []=>true
  | c :: cs=>belowV n c && belowL n cs
theorem belowL_spec {n:Nat}:∀ {cs:List V},belowV.belowL n cs=true → ∀ j,j<cs.length→belowV n (cAt cs j)=true
  | [],_,j,h=>by simp at h
  | c :: cs,h,0,_=>by simp only [belowV.belowL,Bool.and_eq_true] at h;exact h.1
  | c :: cs,h,j+1,hj=>by
    simp only [belowV.belowL,Bool.and_eq_true] at h
    have:=belowL_spec h.2 j (by simpa using hj)
    simpa [cAt] using this
def cutρ (ρ:Nat→Option Value) (n:Nat):Nat→Option Value:=fun id=>bif Nat.blt id n then ρ id else none
theorem cutρ_some {ρ:Nat→Option Value} {n id:Nat} {u:Value} (h:cutρ ρ n id=some u):ρ id=some u∧id<n:=by
  unfold cutρ at h
  cases hb:Nat.blt id n with
  | false=>rw [hb] at h;cases h
  | true=>rw [hb] at h;exact ⟨h,Nat.le_of_ble_eq_true hb⟩
theorem cutρ_lt {ρ:Nat→Option Value} {n id:Nat} (h:Nat.blt id n=true):cutρ ρ n id=ρ id:=by unfold cutρ;rw [h];rfl
theorem VRel.cut {ρ:Nat→Option Value} {S:Nat→Prop} {w:World} {v:V} {u:Value} {n:Nat} (h:VRel ρ S w v u):belowV n v=true→VRel (cutρ ρ n) S w v u:=by
  induction h with
  | pure h=>exact fun _=>.pure h
  | own h=>exact fun hb=>.own (by rw [cutρ_lt hb];exact h)
  | ptr h hb=>exact fun hn=>.ptr (by rw [cutρ_lt hn];exact h) hb
  | rp us hS hc hr=>exact fun _=>.rp us hS hc hr
  | agg hn h ih=>exact fun hb=>.agg hn (fun j hj=>ih j hj (belowL_spec hb j hj))
  | tup hn h ih=>exact fun hb=>.tup hn (fun j hj=>ih j hj (belowL_spec hb j hj))
  | clo hn h ih=>exact fun hb=>.clo hn (fun j hj=>ih j hj (belowL_spec hb j hj))
  | any u=>exact fun _=>.any u
  | und=>exact fun _=>.und
def belowE (n:Nat):List (Nat×V)→Bool
  | []=>true
  | (_,v) :: r=>belowV n v && belowE n r
theorem belowE_spec {n:Nat}:∀ {e:List (Nat×V)},belowE n e=true → ∀ t v,getE e t=some v→belowV n v=true
  | [],_,t,v,h=>by simp [getE] at h
  | (s,u) :: r,hc,t,v,h=>by
    simp only [belowE,Bool.and_eq_true] at hc
    simp only [getE] at h
    cases hb:Nat.beq s t with
    | true=>rw [hb] at h;simp only [cond_true,Option.some.injEq] at h;rw [← h];exact hc.1
    | false=>rw [hb] at h;exact belowE_spec hc.2 t v h
def belowB (n:Nat):Option Blk→Bool
  | some (.box _ cs)=>belowV.belowL n cs
  | some (.rox _ _ l)=>l.all (belowV.belowL n)
  | _=>true
def belowH (n:Nat):List (Nat×Option Blk)→Bool
  | []=>true
  | (id,B) :: r=>Nat.blt id n && belowB n B && belowH n r
theorem belowH_spec {n:Nat}:∀ {e:List (Nat×Option Blk)},belowH n e=true → ∀ id B,getH e id=some B→Nat.blt id n=true∧belowB n (some B)=true
  | [],_,t,v,h=>by simp [getH] at h
  | (s,u) :: r,hc,t,v,h=>by
    simp only [belowH,Bool.and_eq_true] at hc
    rw [getH_new] at h
    split at h
    · rename_i e;subst e;subst h;exact hc.1
    · exact belowH_spec hc.2 t v h
theorem less_cut {st:St} (n:Nat) (hn:Nat.ble n0 n=true) (hle:Nat.ble n st.next=true) (hE':belowE n st.env=true) (hH':belowH n st.heap=true):Less P n0 st { st with next:=n }:=
  fun F base w0 ρ a w hH hE=>by
    have hS:∀ b,Stab F ρ st.heap b→Stab F (cutρ ρ n) st.heap b:=fun b h=>⟨h.1,fun id B u hB ho hu=>h.2 id B u hB ho (cutρ_some hu).1⟩
    refine ⟨cutρ ρ n,⟨⟨hH.below,hH.hbase,fun id u hu=>⟨(cutρ_some hu).2,(hH.sup id u (cutρ_some hu).1).2⟩,fun id id' B B' u u' b hB hB' ho ho' hu hu'=>hH.inj id id' B B' u u' b hB hB' ho ho' (cutρ_some hu).1 (cutρ_some hu').1,fun id B hB=>?_⟩,hH.hF⟩,
      ⟨hE.size,hE.defers,fun t v hv=>?_⟩,fun id hid=>cutρ_lt (by have:=Nat.le_of_ble_eq_true hn;simp;omega)⟩
    · have h1:=hH.blk id B hB
      obtain ⟨g1,g2⟩:=belowH_spec hH' id B hB
      cases B with
      | box t cs=>
        obtain ⟨b,us,q1,q2,q3,q4,q5⟩:=h1
        exact ⟨b,us,by rw [cutρ_lt g1];exact q1,q2,q3,q4,fun j hj=>⟨((q5 j hj).1.cut (belowL_spec g2 j hj)).mono (Same.refl _ _) (fun b h _=>hS b h) (fun _ _ h=>h),(q5 j hj).2⟩⟩
      | row e s l=>
        obtain ⟨h0,v,xs,q1,q2,q3,q4⟩:=h1
        exact ⟨h0,v,xs,by rw [cutρ_lt g1];exact q1,q2,q3,fun i j hi hj=>by
          obtain ⟨u,hu,hp,ho⟩:=q4 i j hi hj
          exact ⟨u,hu,hp.mono (Same.refl _ _) (fun b h _=>hS b h),ho⟩⟩
      | fro l=>
        obtain ⟨v,q1,q2,q3⟩:=h1
        exact ⟨v,by rw [cutρ_lt g1];exact q1,q2.mono (Same.refl _ _) (fun b h _=>hS b h),q3⟩
      | map q es=>
        obtain ⟨b,mes,clock,q1,q2⟩:=h1
        exact ⟨b,mes,clock,by rw [cutρ_lt g1];exact q1,q2⟩
      | obj o=>
        obtain ⟨b,q1,q2⟩:=h1
        exact ⟨b,by rw [cutρ_lt g1];exact q1,q2⟩
      | brow be bl=>
        obtain ⟨b,cap,cur,fz,q1,q2⟩:=h1
        exact ⟨b,cap,cur,fz,by rw [cutρ_lt g1];exact q1,q2⟩
      | rox e s l=>
        obtain ⟨h0,v,xs,q1,q2,q3,q4⟩:=h1
        exact ⟨h0,v,xs,by rw [cutρ_lt g1];exact q1,q2,q3,fun i j hi hj=>by
          obtain ⟨u,hu,hp,ho⟩:=q4 i j hi hj
          have hm:eAt l i ∈ l:=by unfold eAt;rw [List.getD_eq_getElem?_getD,List.getElem?_eq_getElem hi];exact List.getElem_mem hi
          exact ⟨u,hu,(hp.cut (belowL_spec (List.all_eq_true.1 g2 _ hm) j (by rw [q3 i hi];exact hj))).mono (Same.refl _ _) (fun b h _=>hS b h) (fun _ _ h=>h),ho⟩⟩
      | fmap q es=>
        obtain ⟨b,mes,clock,q1,q2,q3⟩:=h1
        exact ⟨b,mes,clock,by rw [cutρ_lt g1];exact q1,hS b q2,q3⟩
      | iter left cur=>
        obtain ⟨r,b,mes,clock,since,seen,c0,q1,q2,q3,q4,q5⟩:=h1
        exact ⟨r,b,mes,clock,since,seen,c0,by rw [cutρ_lt g1];exact q1,q2,q3,hS b q4,q5⟩
    · exact ((hE.slot t v hv).cut (belowE_spec hE' t v hv)).mono (Same.refl _ _) (fun b h _=>hS b h) (fun _ _ h=>h)
def fnOk (P:Program) (f:FuncId):Bool:=
  match P.funcs[f]? with
  | some fn => fn.body.isSome && !(fn.name == "runtime.NumGoroutine")
  | none=>false
def Fn (P:Program) (f:FuncId) (args:List V) (r:V):Prop:=
  fnOk P f=true ∧ ∀ (w:World) (S:Nat→Prop) (vals:Array Value),vals.size=args.length→(∀ b,w.heap.size≤b→S b)→(∀ j,j<args.length→VRel (fun _=>none) S w (cAt args j) (vals.getD j undef)) →
    Calls P f vals w fun e w'=>∃ v,e = .returned v∧Below w.heap.size w w' ∧ VRel (fun _=>none) S w' r v
theorem run_call {o:Oper} {f:FuncId} {xs:Array Operand} {ts:Array TypeId} (ho:o.op = .call { callee:=.value (.func f),args:=xs,argTypes:=ts }) (hf:fnOk P f=true) (a:Act) (w:World) :
    (execOp a.eval o).run P w = .ok (.enter f (xs.map a.eval)) w:=by
  unfold fnOk at hf
  cases hfn:P.funcs[f]? with
  | none=>rw [hfn] at hf;cases hf
  | some fn=>
    rw [hfn] at hf
    simp only [Bool.and_eq_true,Bool.not_eq_true'] at hf
    obtain ⟨h1,h2⟩:=hf
    obtain ⟨c,hc⟩:=Option.isSome_iff_exists.1 h1
    unfold execOp;rw [ho]
    have hname : fn.name ≠ "runtime.NumGoroutine" := fun e => by rw [e] at h2; simp at h2
    simp [resolve,Act.eval,Deferred.ofValue,invoke,callFunc,Sem.run_bind,Sem.run_pure,program,Sem.run,hfn,hc,hname]
end
end Go.Proofs.YtendheafcbickaaGreat
end
section
namespace Go.Proofs.YtendheafcbickaaGreat
open Go.RowKit
section
variable {P:Program} {n0:Nat}
def snapV (heap:List (Nat×Option Blk)):V→Option V
  | .lit u=>some (.lit u)
  | .ro l=>some (.ro l)
  | .own id=>match getH heap id with
    | some (.row _ _ l)=>some (.ro l)
    | some (.fro l)=>some (.ro l)
    | _=>none
  | .rp cs=>some (.rp cs)
  | .agg cs=>match snapL cs with
    | some cs'=>some (.agg cs')
    | none=>none
  | .tup cs=>match snapL cs with
    | some cs'=>some (.tup cs')
    | none=>none
  | _=>none
where snapL:List V→Option (List V)
  | []=>some []
  | c :: cs=>match snapV heap c,snapL cs with
    | some c',some cs'=>some (c' :: cs')
    | _,_=>none
theorem snapL_spec {heap:List (Nat×Option Blk)}:∀ {cs cs':List V},snapV.snapL heap cs=some cs' → cs'.length=cs.length ∧ ∀ j,j<cs.length→snapV heap (cAt cs j)=some (cAt cs' j)
  | [],cs',h=>by
    simp only [snapV.snapL,Option.some.injEq] at h
    subst h
    exact ⟨rfl,fun j hj=>by simp at hj⟩
  | c :: cs,cs',h=>by
    simp only [snapV.snapL] at h
    split at h
    · rename_i c' cs'' h1 h2
      injection h with h;subst h
      obtain ⟨e1,e2⟩:=snapL_spec h2
      refine ⟨by simp [e1],fun j hj=>?_⟩
      cases j with
      | zero=>simpa [cAt] using h1
      | succ j=>
        have:=e2 j (by simpa using hj)
        simpa [cAt] using this
    · cases h
theorem row_ro {S S':Nat→Prop} {w:World} {base:Nat} {e s:Nat} {v:Value} {xs:List Value} {l:List (List V)} (h0:0<s) (h2:w.ownsRow base e s v l.length xs) (h3:∀ i,i<l.length→(eAt l i).length=s)
    (h4:∀ i j,i<l.length→j<s → ∃ u,xs[i * s+j]? = some u∧PRel S w (cAt (eAt l i) j) u∧u.oneCell' = true) (hS:∀ b,S b→b<w.heap.size→S' b) (hb:∀ b,blockOf v=some b→S' b):PRel S' w (.ro l) v:=by
  have hrel:∀ i j,i<l.length→j<s→PRel S' w (cAt (eAt l i) j) (xs.getD (i * s+j) undef):=fun i j hi hj=>by
    obtain ⟨u,hu,hp,_⟩:=h4 i j hi hj
    have:xs.getD (i * s+j) undef=u:=by rw [List.getD_eq_getElem?_getD,hu];rfl
    rw [this];exact hp.mono (Same.refl _ _) hS
  rcases h2.2 with ⟨rfl,hl⟩ | ⟨g,cap,cur,rfl,hbg,hg,hnc,hcm,hcs,htake⟩
  · have hn:l.length=0:=hl
    have:PRel S' w (.ro l) (.slice none l.length 0):=.ro l none 0 s 0 0 (fun i j=>xs.getD (i * s+j) undef) (by omega) (by unfold maxLen;omega) h0 (fun h=>by omega) h3 (fun i j hi=>by omega) hrel
    rwa [hn] at this
  · refine .ro l _ cap s g 0 (fun i j=>xs.getD (i * s+j) undef) hnc hcm h0 (fun _=>⟨rfl,hb g rfl⟩) h3 (fun i j hi hj=>?_) hrel
    obtain ⟨u,hu,hp,_⟩:=h4 i j hi hj
    have e1:xs.getD (i * s+j) undef=u:=by rw [List.getD_eq_getElem?_getD,hu];rfl
    rw [e1,Nat.zero_add]
    exact row_cell h2 rfl hu
theorem snap_spec {F:Nat→Prop} {base:Nat→Prop} {ρ:Nat→Option Value} {heap:List (Nat×Option Blk)} {next:Nat} {w0 w:World} (hH:HRel F base ρ heap next w0 w) {S':Nat→Prop} (hS:∀ b,Stab F ρ heap b→b<w.heap.size→S' b)
    (ho:∀ b,base b→b<w.heap.size→S' b) {v:V} {u:Value} (h:VRel ρ (Stab F ρ heap) w v u):∀ {v'},snapV heap v=some v' → VRel (fun _=>none) S' w v' u:=by
  induction h with
  | pure h=>
    intro v' hv
    have hp:=h.mono (Same.refl _ _) hS
    cases h with
    | lit=>simp only [snapV,Option.some.injEq] at hv;subst hv;exact .pure hp
    | ro=>simp only [snapV,Option.some.injEq] at hv;subst hv;exact .pure hp
  | @own id u h=>
    intro v' hv
    simp only [snapV] at hv
    split at hv
    · rename_i e s l hh
      injection hv with hv;subst hv
      obtain ⟨h0,v,xs,h1,⟨h2,_⟩,h3,h4⟩:=hH.blk _ _ hh
      rw [h] at h1;injection h1 with h1;subst h1
      exact .pure (row_ro h0 h2 h3 h4 hS (fun b hb=>by have:=hH.owned hh rfl h hb;exact ho b this.1 this.2))
    · rename_i l hh
      injection hv with hv;subst hv
      obtain ⟨v,h1,h2,_⟩:=hH.blk _ _ hh
      rw [h] at h1;injection h1 with h1;subst h1
      exact .pure (h2.mono (Same.refl _ _) hS)
    · cases hv
  | ptr=>intro v' hv;simp [snapV] at hv
  | rp us hSb hc hr=>
    intro v' hv
    simp only [snapV,Option.some.injEq] at hv;subst hv
    exact .rp us (fun h=>hS _ (hSb h) (cell_lt (hc 0 h))) hc (fun j hj=>(hr j hj).mono (Same.refl _ _) hS)
  | agg hn h ih=>
    intro v' hv
    simp only [snapV] at hv
    split at hv
    · rename_i cs' hcs
      injection hv with hv;subst hv
      obtain ⟨e1,e2⟩:=snapL_spec hcs
      exact .agg (by rw [e1];exact hn) (fun j hj=>ih j (by omega) (e2 j (by omega)))
    · cases hv
  | tup hn h ih=>
    intro v' hv
    simp only [snapV] at hv
    split at hv
    · rename_i cs' hcs
      injection hv with hv;subst hv
      obtain ⟨e1,e2⟩:=snapL_spec hcs
      exact .tup (by rw [e1];exact hn) (fun j hj=>ih j (by omega) (e2 j (by omega)))
    · cases hv
  | clo=>intro v' hv;simp [snapV] at hv
  | any=>intro v' hv;simp [snapV] at hv
  | und=>intro v' hv;simp [snapV] at hv
def argsE (env:List (Nat×V)):List Operand→Option (List V)
  | []=>some []
  | x :: xs=>match opE env x,argsE env xs with
    | some v,some vs=>some (v :: vs)
    | _,_=>none
theorem argsE_spec {ρ:Nat→Option Value} {S:Nat→Prop} {w:World} {nt:Nat} {env:List (Nat×V)} {a:Act} (hE:ERel ρ S w nt env a):∀ {xs:List Operand} {vs:List V},argsE env xs=some vs→vs.length=xs.length ∧ ∀ j,j<vs.length→VRel ρ S w (cAt vs j) ((xs.map a.eval).getD j undef)
  | [],vs,h=>by
    simp only [argsE,Option.some.injEq] at h
    subst h
    exact ⟨rfl,fun j hj=>by simp at hj⟩
  | x :: xs,vs,h=>by
    simp only [argsE] at h
    split at h
    · rename_i v vs' h1 h2
      injection h with h;subst h
      obtain ⟨e1,e2⟩:=argsE_spec hE h2
      refine ⟨by simp [e1],fun j hj=>?_⟩
      cases j with
      | zero=>simpa [cAt] using opE_sound hE h1
      | succ j=>
        have:=e2 j (by simpa using hj)
        simpa [cAt] using this
    · cases h
def flatV:V→Bool
  | .lit _=>true
  | .agg cs=>flatL cs
  | .tup cs=>flatL cs
  | _=>false
where flatL:List V→Bool
  | []=>true
  | c :: cs=>flatV c && flatL cs
theorem flatL_spec:∀ {cs:List V},flatV.flatL cs=true → ∀ j,j<cs.length→flatV (cAt cs j)=true
  | [],_,j,h=>by simp at h
  | c :: cs,h,0,_=>by simp only [flatV.flatL,Bool.and_eq_true] at h;exact h.1
  | c :: cs,h,j+1,hj=>by
    simp only [flatV.flatL,Bool.and_eq_true] at h
    have:=flatL_spec h.2 j (by simpa using hj)
    simpa [cAt] using this
theorem flat_any {ρ ρ':Nat→Option Value} {S S':Nat→Prop} {w w':World} {v:V} {u:Value} (h:VRel ρ S w v u):flatV v=true→VRel ρ' S' w' v u:=by
  induction h with
  | pure h=>
    cases h with
    | lit _ h=>exact fun _=>.pure (.lit _ h)
    | ro=>intro h;cases h
  | agg hn h ih=>exact fun hb=>.agg hn (fun j hj=>ih j hj (flatL_spec hb j hj))
  | tup hn h ih=>exact fun hb=>.tup hn (fun j hj=>ih j hj (flatL_spec hb j hj))
  | _=>intro h;cases h
theorem call_common {o:Oper} {st:St} {f:FuncId} {xs:Array Operand} {ts:Array TypeId} {vs vs':List V} {r:V} {S:World→(Nat→Option Value)→(Nat→Prop)→Nat→Prop} (ho:o.op = .call { callee:=.value (.func f),args:=xs,argTypes:=ts }) (hdn:dstOk st.nt o.dst=true) (hf:Fn P f vs' r)
    (hx:argsE st.env xs.toList=some vs) (hlen:vs'.length=vs.length)
    (hS:∀ F base w0 ρ w,HRel F base ρ st.heap st.next w0 w→(∀ b,w.heap.size≤b→S w ρ F b)∧(∀ j u,j<vs.length→VRel ρ (Stab F ρ st.heap) w (cAt vs j) u→VRel (fun _=>none) (S w ρ F) w (cAt vs' j) u) ∧ ∀ w' v,Below w.heap.size w w' → VRel (fun _=>none) (S w ρ F) w' r v→VRel ρ (Stab F ρ st.heap) w' r v) :
    GStep P n0 o st (st.put o.dst r):=fun F base w0 ρ a w hH hE=>by
  obtain ⟨g1,g2,g3⟩:=hS F base w0 ρ w hH
  obtain ⟨e1,e2⟩:=argsE_spec hE hx
  unfold Oper.wp
  rw [run_call ho hf.1 a w,Oper.upon_enter]
  have hsz:(xs.map a.eval).size=vs'.length:=by
    rw [hlen,e1];simp
  refine (hf.2 w (S w ρ F) (xs.map a.eval) hsz g1 (fun j hj=>?_)).mono ?_
  · rw [hlen] at hj
    have h:=e2 j hj
    have e3:(xs.toList.map a.eval).getD j undef=(xs.map a.eval).getD j undef:=by
      rw [List.getD_eq_getElem?_getD,Array.getD_eq_getD_getElem?,← Array.toList_map]
      simp
    rw [e3] at h
    exact g2 j _ hj h
  · rintro e w' ⟨v,rfl,hb,hv⟩
    obtain ⟨p1,p2⟩:=put_heap st o.dst r
    have hs:Same (Stab F ρ st.heap) w w':=fun b _ hlt=>hb.block b hlt
    refine ⟨ρ,by rw [p1,p2];exact hH.grow hb,by rw [p1];exact (hE.mono hs (fun b h _=>h) (fun _ _ h=>h)).putD hdn (g3 w' v hb hv),fun _ _ h=>h,fun _ _=>rfl⟩
theorem stab_new {F:Nat→Prop} {base:Nat→Prop} {ρ:Nat→Option Value} {heap:List (Nat×Option Blk)} {next:Nat} {w0 w:World} (hH:HRel F base ρ heap next w0 w) {b:Nat} (hb:w.heap.size≤b):Stab F ρ heap b:=
  ⟨hH.hF b (hH.hbase b hb),fun id B u hB ho hu hbb=>by have:=(hH.owned hB ho hu hbb).2;omega⟩
theorem g_call {o:Oper} {st:St} {f:FuncId} {xs:Array Operand} {ts:Array TypeId} {vs:List V} {r:V} (ho:o.op = .call { callee:=.value (.func f),args:=xs,argTypes:=ts }) (hdn:dstOk st.nt o.dst=true)
    (hx:argsE st.env xs.toList=some vs) (hb:belowV.belowL 0 vs=true) (hf:Fn P f vs r):GStep P n0 o st (st.put o.dst r):=
  call_common (S:=fun w ρ F=>Stab F ρ st.heap) ho hdn hf hx rfl fun F base w0 ρ w hH=>⟨fun b hb=>stab_new hH hb,fun j u hj h=>(h.cut (belowL_spec hb j hj)).mono (Same.refl _ _) (fun b h _=>h) (fun id u h=>by have:=(cutρ_some h).2;omega),
    fun w' v hb' h=>h.mono (Same.refl _ _) (fun b h _=>h) (fun id u h=>by cases h)⟩
theorem g_call_snap {o:Oper} {st:St} {f:FuncId} {xs:Array Operand} {ts:Array TypeId} {vs vs':List V} {r:V} (ho:o.op = .call { callee:=.value (.func f),args:=xs,argTypes:=ts }) (hdn:dstOk st.nt o.dst=true)
    (hx:argsE st.env xs.toList=some vs) (hs:snapV.snapL st.heap vs=some vs') (hf:Fn P f vs' r) (hr:flatV r=true):GStep P n0 o st (st.put o.dst r):=by
  obtain ⟨e1,e2⟩:=snapL_spec hs
  exact call_common (S:=fun w ρ F _=>True) ho hdn hf hx e1 fun F base w0 ρ w hH=>⟨fun b hb=>trivial,fun j u hj h=>snap_spec hH (fun _ _ _=>trivial) (fun _ _ _=>trivial) h (e2 j hj),fun w' v hb' h=>flat_any h hr⟩
mutual
inductive Wk:V→V→Prop
  | refl (v:V):Wk v v
  | nil:Wk (.lit (.slice none 0 0)) (.ro [])
  | agg {cs ds:List V} (h:WkL cs ds):Wk (.agg cs) (.agg ds)
  | tup {cs ds:List V} (h:WkL cs ds):Wk (.tup cs) (.tup ds)
inductive WkL:List V→List V→Prop
  | nil:WkL [] []
  | cons {c d:V} {cs ds:List V} (h:Wk c d) (hs:WkL cs ds):WkL (c :: cs) (d :: ds)
end
theorem cAt_succ (c:V) (cs:List V) (j:Nat):cAt (c :: cs) (j+1)=cAt cs j:=by simp [cAt]
mutual
theorem Wk.rel {ρ:Nat→Option Value} {S:Nat→Prop} {w:World}:∀ {v v':V},Wk v v' → ∀ {u:Value},VRel ρ S w v u→VRel ρ S w v' u
  | _,_,.refl v,u,h=>h
  | _,_,.nil,u,h=>by
    rw [lit_inv h]
    exact .pure (.ro [] none 0 1 0 0 (fun _ _=>undef) (by simp) (by unfold maxLen;omega) (by omega) (fun h=>by simp at h) (fun i hi=>by simp at hi) (fun i j hi=>by simp at hi) (fun i j hi=>by simp at hi))
  | _,_,.agg hs,u,h=>by
    have hl:=WkL.rel (ρ:=ρ) (S:=S) (w:=w) hs
    cases h with
    | pure h=>cases h
    | agg hn h=>exact .agg (by rw [hn,hl.1]) (fun j hj=>hl.2 j (by rw [hl.1];exact hj) (h j (by rw [hl.1];exact hj)))
  | _,_,.tup hs,u,h=>by
    have hl:=WkL.rel (ρ:=ρ) (S:=S) (w:=w) hs
    cases h with
    | pure h=>cases h
    | tup hn h=>exact .tup (by rw [hn,hl.1]) (fun j hj=>hl.2 j (by rw [hl.1];exact hj) (h j (by rw [hl.1];exact hj)))
theorem WkL.rel {ρ:Nat→Option Value} {S:Nat→Prop} {w:World}:∀ {cs ds:List V},WkL cs ds→cs.length=ds.length ∧ ∀ j,j<cs.length → ∀ {u:Value},VRel ρ S w (cAt cs j) u→VRel ρ S w (cAt ds j) u
  | _,_,.nil=>⟨rfl,fun j hj=>by simp at hj⟩
  | _,_,.cons h hs=>by
    have hl:=WkL.rel (ρ:=ρ) (S:=S) (w:=w) hs
    refine ⟨by simp [hl.1],fun j hj u hu=>?_⟩
    cases j with
    | zero=>exact Wk.rel h hu
    | succ j=>
      rw [cAt_succ] at hu ⊢
      exact hl.2 j (by simpa using hj) hu
end
theorem fn_weak {f:FuncId} {vs vs':List V} {r:V} (hf:Fn P f vs' r) (hw:WkL vs vs'):Fn P f vs r:=
  ⟨hf.1,fun w S vals hsz hS hargs=>by
    have hl:=fun j=>(WkL.rel (ρ:=fun _=>none) (S:=S) (w:=w) hw).2 j
    have he:=(WkL.rel (ρ:=fun _=>none) (S:=S) (w:=w) hw).1
    exact hf.2 w S vals (by rw [hsz,he]) hS (fun j hj=>hl j (by rw [he];exact hj) (hargs j (by rw [he];exact hj)))⟩
def paramsE:Nat→List V→List (Nat×V)
  | _,[]=>[]
  | k,v :: vs=>(k,v) :: paramsE (k+1) vs
theorem paramsE_spec:∀ (k:Nat) (vs:List V) (t:Nat) (v:V),getE (paramsE k vs) t=some v→k≤t∧t - k<vs.length∧v=cAt vs (t - k)
  | k,[],t,v,h=>by simp [paramsE,getE] at h
  | k,x :: vs,t,v,h=>by
    simp only [paramsE,getE] at h
    cases hb:Nat.beq k t with
    | true=>
      rw [hb] at h
      have:=Nat.eq_of_beq_eq_true hb
      subst this
      simp only [cond_true,Option.some.injEq] at h
      subst h
      exact ⟨Nat.le_refl _,by simp,by simp [cAt]⟩
    | false=>
      rw [hb] at h
      have hne:k≠t:=fun e=>by rw [e] at hb;simp at hb
      obtain ⟨h1,h2,h3⟩:=paramsE_spec (k+1) vs t v h
      refine ⟨by omega,by simp;omega,?_⟩
      rw [h3]
      have:t - k=(t - (k+1))+1:=by omega
      rw [this];simp [cAt]
def readBox (P:Program) (st:St) (T:TypeId):V→Option V
  | .ptr id 0 _ j=>match getH st.heap id with
    | some (.box _ cs)=>match aggT P T with
      | some true=>match sizeT P T with
        | some n=>bif Nat.ble n (cs.drop j).length then some (.agg ((cs.drop j).take n)) else none
        | none=>none
      | some false=>(cs.drop j)[0]?
      | none=>none
    | _=>none
  | _=>none
def resE (P:Program) (st:St):List ResultVar→Option (List V)
  | []=>some []
  | .tmp t :: rs=>match getE st.env t,resE P st rs with
    | some v,some vs=>some (v :: vs)
    | _,_=>none
  | .cell a T :: rs=>match getE st.env a with
    | some p=>match readBox P st T p,resE P st rs with
      | some v,some vs=>some (v :: vs)
      | _,_=>none
    | none=>none
def resV (P:Program) (st:St) (rs:List ResultVar):Option V:=
  match resE P st rs with
  | some [v]=>some v
  | some vs=>some (.tup vs)
  | none=>none
theorem readBox_spec {F:Nat→Prop} {base:Nat→Prop} {ρ:Nat→Option Value} {w0 w:World} {st:St} {T:TypeId} {p v:V} {u:Value} (hH:HRel F base ρ st.heap st.next w0 w) (hp:VRel ρ (Stab F ρ st.heap) w p u) (h:readBox P st T p=some v) :
    ∃ r,(loadVar T ⟨(match u with | .pointer (some a)=>a.block|_=>0),(match u with | .pointer (some a)=>a.off|_=>0),none⟩).run P w = .ok r w∧VRel ρ (Stab F ρ st.heap) w v r ∧ ∃ b off,u = .pointer (some ⟨b,off,none⟩):=by
  unfold readBox at h
  split at h
  · rename_i id s j
    split at h
    · rename_i t cs hh
      obtain ⟨b,off,us,h1,h2,h3⟩:=reads_box (G:=[]) (st:=st) (s:=s) (j:=j) hh rfl F base w0 ρ w u hH.toHRel0 rfl hp
      subst h1
      split at h
      · rename_i hT
        split at h
        · rename_i n hn
          cases hb:Nat.ble n (cs.drop j).length with
          | false=>rw [hb] at h;cases h
          | true=>
            rw [hb] at h
            simp only [cond_true,Option.some.injEq] at h
            subst h
            have hle:=Nat.le_of_ble_eq_true hb
            have:=run_load_agg (P:=P) (T:=T) (n:=n) hT hn (b:=b) (off:=off) (us:=(Array.range n).map us) (w:=w) (by simp) (fun k hk=>by
              rw [h3 w (Ext.refl _ _) k (by omega)];simp [hk])
            simp only [Instr.loadAt,Instr.sureAddr,Sem.run_bind,Sem.run_pure,Result.andThen_ok] at this
            refine ⟨_,this,.agg (by simp;simp at hle;omega) (fun k hk=>?_),b,off,rfl⟩
            simp only [List.length_take] at hk
            have e1:cAt ((cs.drop j).take n) k=cAt (cs.drop j) k:=by unfold cAt;rw [List.getD_eq_getElem?_getD,List.getD_eq_getElem?_getD,List.getElem?_take,if_pos (by omega)]
            have e2:((Array.range n).map us).getD k undef=us k:=by simp [show k<n by omega]
            rw [e1,e2]
            exact h2 k (by omega)
        · cases h
      · rename_i hT
        have hlt:0<(cs.drop j).length:=(List.getElem?_eq_some_iff.1 h).1
        have e:cAt (cs.drop j) 0=v:=by unfold cAt;rw [List.getD_eq_getElem?_getD,h];rfl
        have:=h3 w (Ext.refl _ _) 0 hlt
        simp only [Nat.add_zero] at this
        have hr:=run_load_one (P:=P) (T:=T) hT this
        simp only [Instr.loadAt,Instr.sureAddr,Sem.run_bind,Sem.run_pure,Result.andThen_ok] at hr
        exact ⟨_,hr,by rw [← e];exact h2 0 hlt,b,off,rfl⟩
      · cases h
    · cases h
  · cases h
def resOf (tmps:Array Value):ResultVar→Sem Value
  | .tmp t=>pure (tmps.getD t undef)
  | .cell b t=>asAddr (tmps.getD b undef) >>= loadVar t
theorem results_eq (fn:Func) (tmps:Array Value):results fn tmps=(fn.results.mapM (resOf tmps) >>= fun vs=>pure (if h:vs.size=1 then vs[0] else .tuple vs)):=by
  unfold results
  congr 1
theorem resE_spec {F:Nat→Prop} {base:Nat→Prop} {ρ:Nat→Option Value} {w0 w:World} {st:St} {a:Act} (hH:HRel F base ρ st.heap st.next w0 w) (hE:ERel ρ (Stab F ρ st.heap) w st.nt st.env a):∀ {rs:List ResultVar} {vs:List V},resE P st rs=some vs →
    ∃ us:List Value,us.length=vs.length∧(rs.mapM (resOf a.tmps)).run P w = .ok us w ∧ ∀ j,j<vs.length→VRel ρ (Stab F ρ st.heap) w (cAt vs j) (us.getD j undef)
  | [],vs,h=>by
    simp only [resE,Option.some.injEq] at h
    subst h
    exact ⟨[],rfl,by simp [Sem.run_pure],fun j hj=>by simp at hj⟩
  | .tmp t :: rs,vs,h=>by
    simp only [resE] at h
    split at h
    · rename_i v vs' h1 h2
      injection h with h;subst h
      obtain ⟨us,e1,e2,e3⟩:=resE_spec hH hE h2
      refine ⟨a.tmps.getD t undef :: us,by simp [e1],by simp only [List.mapM_cons,resOf,Sem.run_bind,Sem.run_pure,Result.andThen_ok,e2],fun j hj=>?_⟩
      cases j with
      | zero=>simpa [cAt] using hE.slot t v h1
      | succ j=>
        have:=e3 j (by simpa using hj)
        simpa [cAt] using this
    · cases h
  | .cell b T :: rs,vs,h=>by
    simp only [resE] at h
    split at h
    · rename_i p hp
      split at h
      · rename_i v vs' h1 h2
        injection h with h;subst h
        obtain ⟨us,e1,e2,e3⟩:=resE_spec hH hE h2
        obtain ⟨r,g1,g2,b',off,g3⟩:=readBox_spec (P:=P) hH (hE.slot b p hp) h1
        rw [g3] at g1
        refine ⟨r :: us,by simp [e1],?_,fun j hj=>?_⟩
        · have hr:(resOf a.tmps (.cell b T)).run P w = .ok r w:=by
            simp only [resOf,g3,asAddr,Sem.run_bind,Sem.run_pure,Result.andThen_ok]
            exact g1
          simp only [List.mapM_cons,Sem.run_bind,hr,Sem.run_pure,Result.andThen_ok,e2]
        · cases j with
          | zero=>simpa [cAt] using g2
          | succ j=>
            have:=e3 j (by simpa using hj)
            simpa [cAt] using this
      · cases h
    · cases h
theorem resV_spec {fn:Func} {F:Nat→Prop} {base:Nat→Prop} {ρ:Nat→Option Value} {w0 w:World} {st:St} {a:Act} {v:V} (hH:HRel F base ρ st.heap st.next w0 w) (hE:ERel ρ (Stab F ρ st.heap) w st.nt st.env a) (h:resV P st fn.results.toList=some v) :
    ∃ u,(results fn a.tmps).run P w = .ok u w∧VRel ρ (Stab F ρ st.heap) w v u:=by
  unfold resV at h
  cases hr:resE P st fn.results.toList with
  | none=>rw [hr] at h;cases h
  | some vs=>
    obtain ⟨us,e1,e2,e3⟩:=resE_spec hH hE hr
    have hrun:(results fn a.tmps).run P w = .ok (if h:us.toArray.size=1 then us.toArray[0] else .tuple us.toArray) w:=by
      rw [results_eq,Array.mapM_eq_mapM_toList]
      simp only [Sem.run_bind,Sem.run_map,e2,Result.andThen_ok,Sem.run_pure]
    rw [hr] at h
    refine ⟨_,hrun,?_⟩
    by_cases h1:vs.length=1
    · obtain ⟨x,rfl⟩:=List.length_eq_one_iff.1 h1
      simp only [Option.some.injEq] at h
      subst h
      obtain ⟨y,rfl⟩:=List.length_eq_one_iff.1 (e1.trans h1)
      simpa [cAt] using e3 0 (by simp)
    · have hv:v = .tup vs:=by
        match vs,h1,h with
        | [],_,h=>injection h with h;exact h.symm
        | [x],h1,_=>exact absurd rfl h1
        | x :: y :: r,_,h=>injection h with h;exact h.symm
      subst hv
      have hne:¬ us.toArray.size=1:=by simp;omega
      rw [dif_neg hne]
      exact .tup (by simp [e1]) (fun j hj=>by have:=e3 j hj;simpa using this)
def Ends (P:Program) (fn:Func) (r:V) (e:Exit) (st:St):Prop:=
  (e = .ret∨e = .normal) ∧ ∃ v r',resV P st fn.results.toList=some v∧snapV st.heap v=some r' ∧ Wk r' r
theorem fn_of_run {f:FuncId} {fn:Func} {c:Code} {args:List V} {r:V} (hok:fnOk P f=true) (hf:P.funcs[f]? = some fn) (hb:fn.body=some c) (hn:Nat.ble args.length fn.ntmps=true)
    (h:Run P 0 c ⟨paramsE 0 args,[],0,fn.ntmps⟩ (Ends P fn r)):Fn P f args r:=by
  refine ⟨hok,fun w S vals hsz hS hargs=>calls_of_wp hf hb ?_⟩
  have hn:=Nat.le_of_ble_eq_true hn
  have hH:HRel S (fun b=>w.heap.size≤b) (fun _=>none) [] 0 w w:=
    { below:=Frm.refl _ _
      hbase:=fun b hb=>hb
      hF:=hS
      sup:=fun id u h=>by cases h
      inj:=fun id id' B B' u u' b h=>by cases h
      blk:=fun id B h=>by cases h }
  have hstab:∀ b,Stab S (fun _=>none) [] b ↔ S b:=fun b=>⟨fun h=>h.1,fun h=>⟨h,fun id B u hB=>by simp [getH] at hB⟩⟩
  have hE:ERel (fun _=>none) (Stab S (fun _=>none) []) w fn.ntmps (paramsE 0 args) { tmps:=vals++Array.replicate (fn.ntmps - vals.size) undef,defers:=[] }:=by
    refine ⟨by simp;omega,rfl,fun t v hv=>?_⟩
    obtain ⟨_,h2,rfl⟩:=paramsE_spec 0 args t v hv
    rw [Nat.sub_zero] at *
    have:=hargs t h2
    have e:(vals++Array.replicate (fn.ntmps - vals.size) undef).getD t undef=vals.getD t undef:=by
      simp [Array.getElem?_append,show t<vals.size by omega]
    rw [e]
    exact this.mono (Same.refl _ _) (fun b h _=>(hstab b).2 h) (fun _ _ h=>h)
  refine wp_mono (h S (fun b=>w.heap.size≤b) w (fun _=>none) _ w hH hE) ?_
  rintro e a' w' ⟨ρ',st',⟨he,v,r',hv,hr,hwk⟩,h1,h2,_⟩
  obtain ⟨u,g1,g2⟩:=resV_spec (fn:=fn) h1 h2 hv
  have hfin:VRel (fun _=>none) S w' r u:=hwk.rel (snap_spec h1 (fun b h _=>h.1) (fun b h _=>hS b h) g2 hr)
  rcases he with rfl|rfl
  · exact ⟨h2.defers,u,g1,u,rfl,h1.below.to_below,hfin⟩
  · exact ⟨h2.defers,u,g1,u,rfl,h1.below.to_below,hfin⟩
end
end Go.Proofs.YtendheafcbickaaGreat
end
section
namespace Go.Proofs.YtendheafcbickaaGreat
open Go.RowKit
section
variable {P:Program} {G:List Nat} {o:Oper} {st:St} {n0:Nat}
def fillV (place:Nat→Option (Nat×Nat)) (cells:List V):List (Nat×List V)→Option (List V)
  | []=>some cells
  | (i,v) :: rest=>match place i with
    | none=>none
    | some (off,size)=>bif Nat.beq v.length size && Nat.ble (off+v.length) cells.length then fillV place (setAt off v cells) rest else none
def placeT (P:Program) (T:TypeId):Option (Nat→Option (Nat×Nat)):=
  match P.info? T,P.underlying T with
  | some it,some (.array _ e)=>
    match it.zero,P.info? e with
    | some z,some ie=>some (fun i=>some (i * ie.size,ie.size))
    | _,_=>none
  | some it,some (.struct fields)=>
    match it.zero,fields.toList.mapM (fun f=>(P.info? f.type).map fun i=>(f.offset,i.size)) with
    | some z,some places=>some (places[·]?)
    | _,_=>none
  | _,_=>none
def partsE (env:List (Nat×V)):List (Nat×Operand)→Option (List (Nat×List V))
  | []=>some []
  | (i,x) :: r=>match opE env x with
    | some v=>match flat v,partsE env r with
      | some cs,some ps=>some ((i,cs) :: ps)
      | _,_=>none
    | none=>none
def CRel (ρ:Nat→Option Value) (S:Nat→Prop) (w:World) (cs:List V) (us:Array Value):Prop:=
  us.size=cs.length ∧ ∀ j,j<cs.length→VRel ρ S w (cAt cs j) (us.getD j undef)∧(us.getD j undef).oneCell' = true
theorem foldl_put (off:Nat):∀ (l:List Value) (k:Nat) (cs:Array Value),off+k+l.length≤cs.size →
    ((l.zipIdx k).foldl (fun cs (x:Value×Nat)=>cs.setIfInBounds (off+x.2) x.1) cs).size=cs.size ∧
    ∀ i,i<cs.size→((l.zipIdx k).foldl (fun cs (x:Value×Nat)=>cs.setIfInBounds (off+x.2) x.1) cs).getD i undef=if off+k≤i∧i<off+k+l.length then l.getD (i - off - k) undef else cs.getD i undef
  | [],k,cs,_=>⟨rfl,fun i hi=>by simp only [List.zipIdx_nil,List.foldl_nil,List.length_nil,Nat.add_zero];rw [if_neg (by omega)]⟩
  | v :: l,k,cs,h=>by
    simp only [List.length_cons] at h
    obtain ⟨h1,h2⟩:=foldl_put off l (k+1) (cs.setIfInBounds (off+k) v) (by simp;omega)
    simp only [List.zipIdx_cons,List.foldl_cons]
    refine ⟨by rw [h1];simp,fun i hi=>?_⟩
    rw [h2 i (by simpa using hi)]
    simp only [List.length_cons]
    by_cases e:i=off+k
    · subst e
      rw [if_neg (by omega),if_pos (by omega)]
      have:off+k - off - k=0:=by omega
      rw [this,Array.getD_eq_getD_getElem?,Array.getElem?_setIfInBounds_self_of_lt hi]
      simp
    · have hset:(cs.setIfInBounds (off+k) v).getD i undef=cs.getD i undef:=by
        rw [Array.getD_eq_getD_getElem?,Array.getD_eq_getD_getElem?,Array.getElem?_setIfInBounds_ne (by omega)]
      rw [hset]
      by_cases hh:off+(k+1)≤i∧i<off+(k+1)+l.length
      · rw [if_pos hh,if_pos (by omega)]
        have:i - off - k=(i - off - (k+1))+1:=by omega
        rw [this];simp
      · rw [if_neg hh,if_neg (by omega)]
theorem fill_rel {ρ:Nat→Option Value} {S:Nat→Prop} {w:World} {place:Nat→Option (Nat×Nat)}:∀ (ps:List (Nat×List V)) (us:List (Nat×Value)) (cs:List V) (cells:Array Value) (r:List V),CRel ρ S w cs cells →
    ps.length=us.length→(∀ k,k<ps.length→(ps.getD k (0,[])).1=(us.getD k (0,undef)).1∧CRel ρ S w (ps.getD k (0,[])).2 (us.getD k (0,undef)).2.cells)→fillV place cs ps=some r → ∃ cells',Instr.fill place cells us=some cells' ∧ CRel ρ S w r cells'
  | [],[],cs,cells,r,hc,_,_,h=>by
    simp only [fillV,Option.some.injEq] at h
    subst h
    exact ⟨cells,rfl,hc⟩
  | (i,v) :: ps,(i',u) :: us,cs,cells,r,hc,hl,hp,h=>by
    have h0:=hp 0 (by simp)
    simp only [List.getD_cons_zero] at h0
    obtain ⟨e,hv⟩:=h0
    subst e
    simp only [fillV] at h
    split at h
    · cases h
    · rename_i off size hpl
      cases hb:(Nat.beq v.length size && Nat.ble (off+v.length) cs.length) with
      | false=>rw [hb] at h;cases h
      | true=>
        rw [hb] at h
        simp only [cond_true] at h
        simp only [Bool.and_eq_true] at hb
        have hb1:=Nat.eq_of_beq_eq_true hb.1
        have hb2:=Nat.le_of_ble_eq_true hb.2
        obtain ⟨hc1,hc2⟩:=hc
        obtain ⟨hv1,hv2⟩:=hv
        have hfold:=foldl_put off u.cells.toList 0 cells (by simp;omega)
        have ez:(u.cells.zipIdx.foldl (fun cs (c,j)=>cs.setIfInBounds (off+j) c) cells)=((u.cells.toList.zipIdx 0).foldl (fun cs (x:Value×Nat)=>cs.setIfInBounds (off+x.2) x.1) cells):=by
          rw [← Array.foldl_toList,Array.toList_zipIdx]
        obtain ⟨cells',g1,g2⟩:=fill_rel ps us (setAt off v cs) (u.cells.zipIdx.foldl (fun cs (c,j)=>cs.setIfInBounds (off+j) c) cells) r
          ⟨by rw [ez,hfold.1,length_setAt];exact hc1,fun j hj=>by
            rw [length_setAt] at hj
            rw [cAt_setAt _ _ _ hb2,ez,hfold.2 j (by omega)]
            simp only [Nat.add_zero,Nat.sub_zero,Array.length_toList,hv1]
            by_cases hh:off≤j∧j<off+v.length
            · rw [if_pos hh,if_pos hh]
              have:=hv2 (j - off) (by omega)
              have e2:u.cells.toList.getD (j - off) undef=u.cells.getD (j - off) undef:=by rw [List.getD_eq_getElem?_getD,Array.getD_eq_getD_getElem?];simp
              rw [e2];exact this
            · rw [if_neg hh,if_neg hh];exact hc2 j hj⟩
          (by simpa using hl) (fun k hk=>by have:=hp (k+1) (by simp;omega);simpa using this) h
        refine ⟨cells',?_,g2⟩
        simp only [Instr.fill,hpl]
        rw [if_neg (by simp;omega)]
        exact g1
theorem partsE_spec {ρ:Nat→Option Value} {S:Nat→Prop} {w:World} {nt:Nat} {env:List (Nat×V)} {a:Act} (hE:ERel ρ S w nt env a) (hρ:∀ id x,ρ id=some x→x.oneCell' = true):∀ {xs:List (Nat×Operand)} {ps:List (Nat×List V)},partsE env xs=some ps →
    ps.length=(xs.map fun (i,x)=>(i,a.eval x)).length ∧ ∀ k,k<ps.length→(ps.getD k (0,[])).1=((xs.map fun (i,x)=>(i,a.eval x)).getD k (0,undef)).1∧CRel ρ S w (ps.getD k (0,[])).2 ((xs.map fun (i,x)=>(i,a.eval x)).getD k (0,undef)).2.cells
  | [],ps,h=>by
    simp only [partsE,Option.some.injEq] at h
    subst h
    exact ⟨rfl,fun k hk=>by simp at hk⟩
  | (i,x) :: r,ps,h=>by
    simp only [partsE] at h
    split at h
    · rename_i v hv
      split at h
      · rename_i cs ps' h1 h2
        injection h with h;subst h
        obtain ⟨e1,e2⟩:=partsE_spec hE hρ h2
        refine ⟨by simp [e1],fun k hk=>?_⟩
        cases k with
        | zero=>exact ⟨rfl,flat_spec (opE_sound hE hv) h1 hρ⟩
        | succ k=>have:=e2 k (by simpa using hk);simpa using this
      · cases h
    · cases h
theorem q_build {T:TypeId} {parts:Array (Nat×Operand)} {ps:List (Nat×List V)} {pl:Nat→Option (Nat×Nat)} {z cs:List V} (ho:o.op = .build T parts) (hz:zeroT P T=some z) (hpl:placeT P T=some pl) (hp:partsE st.env parts.toList=some ps) (hf:fillV pl z ps=some cs) :
    QStep P G o st (.agg cs):=q_of_run fun F base w0 ρ a w hH hE=>by
  obtain ⟨zv,rfl,hz2,hz3⟩:=zeroT_spec hz
  obtain ⟨e1,e2⟩:=partsE_spec hE (fun id x h=>(hH.sup id x h).2) hp
  obtain ⟨cells',g1,g2⟩:=fill_rel (place:=pl) ps _ _ zv.cells cs (lits_rel (ρ:=ρ) (S:=Stab F ρ st.heap) (w:=w) hz2) e1 e2 hf
  have hbuilt:P.built T ((parts.map fun (i,x)=>(i,a.eval x)).toList)=some cells':=by
    rw [Array.toList_map]
    unfold placeT at hpl
    unfold Program.built
    split at hpl
    · rename_i it N e hit hu
      rw [hit,hu]
      simp only []
      split at hpl
      · rename_i z ie hz0 hie
        injection hpl with hpl;subst hpl
        have hzz:=hz3 w
        simp [zeroValue,typeInfo,hit,hz0,Sem.run_bind,Sem.run_pure,program,Sem.run] at hzz
        subst hzz
        rw [hz0,hie]
        exact g1
      · cases hpl
    · rename_i it fields hit hu
      rw [hit,hu]
      simp only []
      split at hpl
      · rename_i z places hz0 hie
        injection hpl with hpl;subst hpl
        have hzz:=hz3 w
        simp [zeroValue,typeInfo,hit,hz0,Sem.run_bind,Sem.run_pure,program,Sem.run] at hzz
        subst hzz
        rw [hz0,hie]
        simpa using g1
      · cases hpl
    · cases hpl
  refine ⟨.agg cells',.agg g2.1 (fun j hj=>(g2.2 j hj).1),fun w'=>?_⟩
  unfold execOp;rw [ho]
  simp only [Sem.run_bind,run_build w' T _ cells' hbuilt];rfl
end
end Go.Proofs.YtendheafcbickaaGreat
end
section
namespace Go.Proofs.YtendheafcbickaaGreat
open Go.RowKit
section
variable {P:Program} {G:List Nat} {o:Oper} {st:St} {n0:Nat}
def srcV (heap:List (Nat×Option Blk)):V→Option (List (List V))
  | .ro l=>some l
  | .lit (.slice none 0 _)=>some []
  | .own id=>match getH heap id with
    | some (.row _ _ l)=>some l
    | some (.fro l)=>some l
    | _=>none
  | _=>none
theorem ro_src {S:Nat→Prop} {w:World} {l:List (List V)} {u:Value} {s:Nat} (h:PRel S w (.ro l) u) (hs:∀ i,i<l.length→(eAt l i).length=s) :
    ∃ A c,∃ news:List Value,u = .slice A l.length c∧news.length=l.length * s∧(l.length=0 ∨ ∃ a,A=some a ∧ ∀ j u,news[j]? = some u→w.cell? (a.add j)=some u) ∧ ∀ i j,i<l.length→j<s → ∃ u,news[i * s+j]? = some u∧PRel S w (cAt (eAt l i) j) u:=by
  generalize hv:V.ro l=v at h
  cases h with
  | lit=>cases hv
  | ro l' A c s' b off us hc hm hp hA hsz hcell hrel=>
    injection hv with hv;subst hv
    by_cases h0:0<l.length
    · have e:s' = s:=by rw [← hsz 0 h0,hs 0 h0]
      subst e
      refine ⟨A,c,(List.range (l.length * s')).map fun k=>us (k / s') (k % s'),rfl,by simp,.inr ⟨⟨b,off,none⟩,(hA h0).1,fun j u hj=>?_⟩,fun i j hi hj=>⟨us i j,?_,hrel i j hi hj⟩⟩
      · have hlt:j<l.length * s':=by
          have:=(List.getElem?_eq_some_iff.1 hj).1
          simpa using this
        have hu:us (j / s') (j % s')=u:=by
          rw [List.getElem?_map,List.getElem?_range hlt] at hj
          simpa using hj
        have hd:j / s' < l.length:=Nat.div_lt_of_lt_mul (by rw [Nat.mul_comm];exact hlt)
        have:=hcell (j / s') (j % s') hd (Nat.mod_lt _ hp)
        have hdm:j / s' * s' + j % s' = j:=by rw [Nat.mul_comm];exact Nat.div_add_mod j s'
        rw [add_addr,← hu,← this,Nat.add_assoc,hdm]
      · have hlt:i * s' + j<l.length * s':=by
          have:(i+1) * s' ≤ l.length * s':=Nat.mul_le_mul_right s' hi
          have h2:(i+1) * s' = i * s' + s':=Nat.succ_mul i s'
          omega
        rw [List.getElem?_map,List.getElem?_range hlt]
        have h1:(i * s' + j) / s' = i:=by
          rw [Nat.mul_comm,Nat.mul_add_div hp,Nat.div_eq_of_lt hj];rfl
        have h2:(i * s' + j) % s' = j:=by
          rw [Nat.mul_comm,Nat.mul_add_mod,Nat.mod_eq_of_lt hj]
        simp [h1,h2]
    · have hl0:l.length=0:=by omega
      refine ⟨A,c,[],rfl,by simp [hl0],.inl hl0,fun i j hi=>by omega⟩
theorem src_spec {F:Nat→Prop} {base:Nat→Prop} {ρ:Nat→Option Value} {heap:List (Nat×Option Blk)} {next:Nat} {w0 w:World} (hH:HRel0 F base ρ heap next w0 w) {v:V} {u:Value} (h:VRel ρ (Stab F ρ heap) w v u) {l:List (List V)} (hv:srcV heap v=some l) {s:Nat} (hs:∀ i,i<l.length→(eAt l i).length=s) (h0:0<s) :
    ∃ A c,∃ news:List Value,u = .slice A l.length c∧news.length=l.length * s∧(l.length=0 ∨ ∃ a,A=some a ∧ ∀ j u,news[j]? = some u→w.cell? (a.add j)=some u) ∧ ∀ i j,i<l.length→j<s → ∃ u,news[i * s+j]? = some u∧PRel (Stab F ρ heap) w (cAt (eAt l i) j) u:=by
  cases v with
  | ro l'=>
    simp only [srcV,Option.some.injEq] at hv
    subst hv
    cases h with
    | pure h=>exact ro_src h hs
  | lit x=>
    have e:=lit_inv h
    subst e
    cases u with
    | slice A n c=>
      cases A with
      | none=>
        cases n with
        | zero=>
          simp only [srcV,Option.some.injEq] at hv
          subst hv
          exact ⟨none,c,[],rfl,by simp,.inl rfl,fun i j hi=>by simp at hi⟩
        | succ=>simp [srcV] at hv
      | some=>simp [srcV] at hv
    | _=>simp [srcV] at hv
  | own id=>
    have h1:=own_inv h
    simp only [srcV] at hv
    split at hv
    · rename_i e s' l' hh
      injection hv with hv;subst hv
      obtain ⟨g0,v,xs,g1,⟨g2,_⟩,g3,g4⟩:=hH.blk _ _ hh
      rw [h1] at g1;injection g1 with g1;subst g1
      by_cases hl0:0<l'.length
      · have es:s' = s:=by rw [← g3 0 hl0,hs 0 hl0]
        subst es
        rcases g2.2 with ⟨_,hn⟩ | ⟨g,cap,cur,hvv,_⟩
        · omega
        · subst hvv
          exact ⟨_,_,xs,rfl,g2.1,.inr ⟨_,rfl,g2.cells rfl⟩,fun i j hi hj=>by obtain ⟨u,q1,q2,_⟩:=g4 i j hi hj;exact ⟨u,q1,q2⟩⟩
      · have hn:l'.length=0:=by omega
        rcases g2.2 with ⟨rfl,_⟩ | ⟨g,cap,cur,rfl,_⟩
        · exact ⟨_,_,[],by rw [hn],by simp [hn],.inl hn,fun i j hi=>by omega⟩
        · exact ⟨_,_,[],rfl,by simp [hn],.inl hn,fun i j hi=>by omega⟩
    · rename_i l' hh
      injection hv with hv;subst hv
      obtain ⟨v,g1,g2,g3⟩:=hH.blk _ _ hh
      rw [h1] at g1;injection g1 with g1;subst g1
      exact ro_src g2 hs
    · cases hv
  | _=>simp [srcV] at hv
theorem app_run {base:Nat} {w:World} {t ty e:TypeId} {i:TypeInfo} {z:Value} {s by_:Nat} (ht:P.underlying t=some (.slice e)) (hi:P.info? e=some i) (hz:i.zero=some z) (hs:i.size=s) (hb:i.bytes=by_) (hzs:z.cells.size=s) (h0:0<s)
    {v:Value} {n:Nat} {xs:List Value} (hown:w.ownsRow base e s v n xs) {A:Option Addr} {m c:Nat} {news:List Value} (hl:news.length=m * s) (hA:m=0 ∨ ∃ a,A=some a ∧ ∀ j u,news[j]? = some u→w.cell? (a.add j)=some u) (h1:∀ u ∈ news,u.oneCell' = true)
    (h63:n+m≤maxLen) (hby:(n+m) * by_≤140737488355328) (hbase:base≤w.heap.size) :
    ∃ v' w',(Builtin.append_ #[t,t] ty #[v,.slice A m c]).run P w = .ok v' w' ∧ w'.ownsRow base e s v' (n+m) (xs++news)∧w.grownBy w' v.ownBlock∧(blockOf v' = blockOf v ∨ ∀ b,blockOf v' = some b→w.heap.size≤b):=by
  have key:∀ a:Addr,A=some a→(∀ j u,news[j]? = some u→w.cell? (a.add j)=some u) → ∃ v' w',(Builtin.append_ #[t,t] ty #[v,.slice A m c]).run P w = .ok v' w' ∧ w'.ownsRow base e s v' (n+m) (xs++news)∧w.grownBy w' v.ownBlock∧(blockOf v' = blockOf v ∨ ∀ b,blockOf v' = some b→w.heap.size≤b):=by
    rintro a rfl hnews
    obtain ⟨v',w',hr,ho,hg,hnil⟩:=run_append_own (P:=P) (w:=w) base t ty e i z s by_ ht hi hz hs hb hzs h0 v n xs hown a m c news hl hnews h1 h63 hby hbase
    refine ⟨v',w',hr,ho,hg,?_⟩
    have hsmall:n+m≤9223372036854775807:=by simp only [maxLen] at h63;omega
    subst hs hb
    rcases hown.2 with ⟨rfl,rfl⟩ | ⟨g,cap,cur,rfl,hbg,hgg,hnc,hcm,hcs,htake⟩
    · by_cases hm:m=0
      · have:=hnil.2 ⟨rfl,hm⟩
        rw [this];exact .inl rfl
      · have hr2:=run_append_nil (P:=P) w t ty e i z ht hi hz a m c news hl hnews (by omega) (by omega) (by have hb:=hby;simp only [Nat.zero_add] at hb;omega)
        rw [hr] at hr2
        injection hr2 with e1 _
        rw [e1]
        exact .inr (fun b hb=>by simp only [blockOf,Option.some.injEq] at hb;omega)
    · by_cases hroom:n+m≤cap
      · obtain ⟨w2,hr2,_⟩:=run_append_fits (P:=P) (w:=w) base t ty e i i.size ht hi rfl g n cap xs hown a m c news hl hnews h1 hroom
        rw [hr] at hr2
        injection hr2 with e1 _
        rw [e1];exact .inl rfl
      · have hr2:=run_append_grow (P:=P) w t ty e i z ht hi hz ⟨g,0,none⟩ n cap xs hown.1 (hown.cells (g:=g) rfl) a m c news hl hnews (by omega) (by omega) (growslice_fits (by omega) hby)
        rw [hr] at hr2
        injection hr2 with e1 _
        rw [e1]
        exact .inr (fun b hb=>by simp only [blockOf,Option.some.injEq] at hb;omega)
  cases A with
  | some a=>
    rcases hA with hm | ⟨a',ha,hnews⟩
    · subst hm
      have hn:news=[]:=List.eq_nil_of_length_eq_zero (by simpa using hl)
      subst hn
      exact key a rfl (fun j u h=>by simp at h)
    · injection ha with ha;subst ha
      exact key a rfl hnews
  | none=>
    have hm:m=0:=by rcases hA with h | ⟨a,h,_⟩;exact h;cases h
    subst hm
    have hn:news=[]:=List.eq_nil_of_length_eq_zero (by simpa using hl)
    subst hn
    refine ⟨v,w,?_,by simpa using hown,⟨rfl,rfl,rfl,Nat.le_refl _,fun _ _ _=>rfl⟩,.inl rfl⟩
    rcases hown.2 with ⟨rfl,rfl⟩ | ⟨g,cap,cur,rfl,hbg,hgg,hnc,hcm,hcs,htake⟩
    · simp [Builtin.append_,run_underlying ht,sizeOf,typeInfo,hi,Builtin.lenOf,Builtin.firstCells,Sem.run_bind,Sem.run_pure,program,Sem.run]
    · simp [Builtin.append_,run_underlying ht,sizeOf,typeInfo,hi,Builtin.lenOf,Builtin.firstCells,Sem.run_bind,Sem.run_pure,program,Sem.run,hnc,storeCells]
def bytesT (P:Program) (T:TypeId):Option Nat:=(P.info? T).map (·.bytes)
theorem elem_info {e s by_:Nat} (hs:sizeT P e=some s) (hb:bytesT P e=some by_) (hz:∃ z,zeroT P e=some z∧z.length=s):∃ i z,P.info? e=some i∧i.zero=some z∧i.size=s∧i.bytes=by_∧z.cells.size=s:=by
  obtain ⟨zv,hz1,hz2⟩:=hz
  unfold zeroT at hz1
  unfold sizeT at hs
  unfold bytesT at hb
  cases hi:P.info? e with
  | none=>rw [hi] at hs;cases hs
  | some i=>
    rw [hi] at hs hb hz1
    simp only [Option.map_some,Option.some.injEq] at hs hb
    simp only [] at hz1
    cases hzz:i.zero with
    | none=>rw [hzz] at hz1;cases hz1
    | some z=>
      rw [hzz] at hz1
      simp only [] at hz1
      cases hbb:z.cells.toList.all (fun u=>u.oneCell') with
      | false=>rw [hbb] at hz1;cases hz1
      | true=>
        rw [hbb] at hz1
        simp only [cond_true,Option.some.injEq] at hz1
        refine ⟨i,z,rfl,hzz,hs,hb,?_⟩
        rw [← hz2,← hz1];simp
theorem PRel.one {S:Nat→Prop} {w:World} {v:V} {u:Value} (h:PRel S w v u):u.oneCell' = true:=by
  cases h with
  | lit _ h=>exact h
  | ro=>rfl
theorem pure_cells {S:Nat→Prop} {w:World} {l:List (List V)} {news:List Value} {s:Nat} (h0:0<s) (hl:news.length=l.length * s) (h:∀ i j,i<l.length→j<s → ∃ u,news[i * s+j]? = some u∧PRel S w (cAt (eAt l i) j) u):∀ u ∈ news,u.oneCell' = true:=by
  intro u hu
  obtain ⟨k,hk,rfl⟩:=List.getElem_of_mem hu
  have hd:k / s<l.length:=Nat.div_lt_of_lt_mul (by rw [Nat.mul_comm];omega)
  obtain ⟨u,hu2,hp⟩:=h (k / s) (k % s) hd (Nat.mod_lt _ h0)
  have hdm:k / s * s+k % s=k:=by rw [Nat.mul_comm];exact Nat.div_add_mod k s
  rw [hdm,List.getElem?_eq_getElem hk] at hu2
  injection hu2 with hu2
  rw [hu2]
  exact hp.one
theorem eAt_append (l m:List (List V)) (i:Nat):eAt (l++m) i=if i<l.length then eAt l i else eAt m (i - l.length):=by
  unfold eAt
  rw [List.getD_eq_getElem?_getD,List.getD_eq_getElem?_getD,List.getD_eq_getElem?_getD,List.getElem?_append]
  split <;> rfl
theorem a_append {k:Nat} {x y:Operand} {t e s by_ id d:Nat} {l m:List (List V)} {v:V} (ho:o.op = .call { callee:=.builtin .append,args:=#[x,y],argTypes:=#[t,t] }) (hd:o.dst=some d) (hdn:Nat.blt d st.nt=true)
    (hx:opE st.env x=some (.own id)) (hh:getH st.heap id=some (.row e s l)) (hy:opE st.env y=some v) (hv:srcV st.heap v=some m)
    (ht:P.underlying t=some (.slice e)) (hs:sizeT P e=some s) (hb:bytesT P e=some by_) (hz:∃ z,zeroT P e=some z∧z.length=s)
    (hm:∀ i,i<m.length→(eAt m i).length=s) (hby:(l.length+m.length) * by_≤140737488355328) (h63:l.length+m.length≤9223372036854775807) :
    GAt P k o st { env:=(d,.own k) :: st.env,heap:=(k,some (.row e s (l++m))) :: (id,none) :: st.heap,next:=st.next,nt:=st.nt }:=fun F base w0 ρ a w hH hE hnn hk=>by
  obtain ⟨i,z,hi,hz1,hsz,hbb,hzs⟩:=elem_info hs hb hz
  have hxv:=own_inv (opE_sound hE hx)
  obtain ⟨h0,r,xs,h1,⟨h2,h2b⟩,h3,h4⟩:=hH.blk _ _ hh
  rw [hxv] at h1;injection h1 with h1;subst h1
  obtain ⟨A,c,news,hu,hnl,hA,hrel⟩:=src_spec hH.toHRel0 (opE_sound hE hy) hv hm h0
  have hone:=pure_cells h0 hnl hrel
  obtain ⟨v',w',hr,hown,hg,hblk⟩:=app_run (P:=P) (ty:=o.type) ht hi hz1 hsz hbb hzs h0 h2 (c:=c) hnl hA hone (by unfold maxLen;omega) hby (Nat.zero_le _)
  have hid:id≠k:=fun e=>by rw [e,hnn] at hxv;cases hxv
  have hext:∀ id x,ρ id=some x→upd ρ k v' id=some x:=fun id x h=>by rw [upd_ne _ _ (fun e=>by rw [e,hnn] at h;cases h)];exact h
  have hob:∀ b,(a.eval x).ownBlock=some b→blockOf (a.eval x)=some b:=fun b hb=>by
    cases hav:a.eval x <;> rw [hav] at hb <;> simp [Value.ownBlock] at hb
    rename_i a0 _ _
    cases a0 <;> simp_all [Value.ownBlock,blockOf]
  have hv'1:v'.oneCell' = true:=by rcases hown.2 with ⟨rfl,_⟩ | ⟨_,_,_,rfl,_⟩ <;> rfl
  refine wp_of_value (u:=v') (w':=w') ?_ ?_
  · unfold execOp;rw [ho]
    simp only [resolve,invoke,builtin,Sem.run_bind,Sem.run_pure,Result.andThen_ok,List.map_toArray,List.map_cons,List.map_nil,hu,hr]
  · rw [hd]
    obtain ⟨q1,q2,q3⟩:=hH.step (ρ':=upd ρ k v') (heap':=(k,some (.row e s (l++m))) :: (id,none) :: st.heap) (next':=st.next) k (a.eval x).ownBlock hg
      (fun kk hk=>by
        have hbk:=hob kk hk
        exact ⟨(hH.owned hh rfl hxv hbk).1,fun hst=>hst.2 id _ _ hh rfl hxv hbk⟩) hext
      (fun id x h=>by
        by_cases e:id=k
        · rw [e,upd_same] at h;injection h with h;subst h;exact ⟨by omega,hv'1⟩
        · rw [upd_ne _ _ e] at h;have:=hH.sup _ _ h;exact ⟨by omega,this.2⟩)
      (fun j B hne hB=>by
        rw [getH_new,if_neg (Ne.symm hne),getH_new] at hB
        split at hB
        · cases hB
        · rename_i hji
          refine ⟨hB,?_⟩
          obtain ⟨u,hu⟩:=hH.some_of hB
          exact ⟨u,hu,fun ho b hb e=>hji (hH.inj id j _ B _ u b hh hB rfl ho hxv hu (hob b e) hb)⟩)
      (fun B u b hB hoB hu hb=>by
        rw [upd_same] at hu;injection hu with hu;subst hu
        rcases hblk with hblk|hblk
        · rw [hblk] at hb
          refine .inr ⟨fun hst=>hst.2 id _ _ hh rfl hxv hb,fun j B' u' hne hB' ho' hu' hb'=>?_⟩
          rw [getH_new,if_neg (Ne.symm hne),getH_new] at hB'
          split at hB'
          · cases hB'
          · rename_i hji
            rw [upd_ne _ _ hne] at hu'
            exact hji (hH.inj id j _ B' _ u' b hh hB' rfl ho' hxv hu' hb hb')
        · exact .inl (hblk b hb))
      (fun B hB hS hsame=>by
        rw [getH_new,if_pos rfl] at hB;injection hB with hB;subst hB
        refine ⟨h0,v',xs++news,upd_same _ _ _,⟨(by rw [List.length_append];exact hown),fun b hb=>hblk.elim (fun hblk=>h2b b (by rw [← hblk];exact hb)) (fun hblk=>hH.hbase b (hblk b hb))⟩,fun k hk=>?_,fun k j hk hj=>?_⟩
        · rw [eAt_append]
          split
          · rename_i hkl;exact h3 k hkl
          · rename_i hkl;rw [List.length_append] at hk;exact hm _ (by omega)
        · rw [eAt_append]
          have hxl:xs.length=l.length * s:=h2.1
          split
          · rename_i hkl
            obtain ⟨u,g1,g2,g3⟩:=h4 k j hkl hj
            have hlt2:k * s+j<l.length * s:=by
              have h5:(k+1) * s≤l.length * s:=Nat.mul_le_mul_right s hkl
              have h6:(k+1) * s=k * s+s:=Nat.succ_mul k s
              omega
            exact ⟨u,by rw [List.getElem?_append_left (by omega)];exact g1,g2.mono hsame hS,g3⟩
          · rename_i hkl
            rw [List.length_append] at hk
            obtain ⟨u,g1,g2⟩:=hrel (k - l.length) j (by omega) hj
            have h5:(k - l.length) * s=k * s - l.length * s:=Nat.sub_mul k l.length s
            have h6:l.length * s≤k * s:=Nat.mul_le_mul_right s (by omega)
            refine ⟨u,?_,g2.mono hsame hS,?_⟩
            · rw [List.getElem?_append_right (by omega),hxl,show k * s+j - l.length * s=(k - l.length) * s+j by omega]
              exact g1
            · exact g2.one)
    exact ⟨upd ρ k v',q1,(hE.mono q2 q3 hext).put (Nat.le_of_ble_eq_true hdn) (.own (upd_same _ _ _)),hext,fun j hj=>upd_ne _ _ hj⟩
theorem g_append {x y:Operand} {t e s by_ id d:Nat} {l m:List (List V)} {v:V} (ho:o.op = .call { callee:=.builtin .append,args:=#[x,y],argTypes:=#[t,t] }) (hd:o.dst=some d) (hdn:Nat.blt d st.nt=true) (hn0:Nat.ble n0 st.next=true)
    (hx:opE st.env x=some (.own id)) (hh:getH st.heap id=some (.row e s l)) (hy:opE st.env y=some v) (hv:srcV st.heap v=some m)
    (ht:P.underlying t=some (.slice e)) (hs:sizeT P e=some s) (hb:bytesT P e=some by_) (hz:∃ z,zeroT P e=some z∧z.length=s)
    (hm:∀ i,i<m.length→(eAt m i).length=s) (hby:(l.length+m.length) * by_≤140737488355328) (h63:l.length+m.length≤9223372036854775807) :
    GStep P n0 o st { env:=(d,.own st.next) :: st.env,heap:=(st.next,some (.row e s (l++m))) :: (id,none) :: st.heap,next:=st.next+1,nt:=st.nt }:=
  gstep_of_at (Nat.le_of_ble_eq_true hn0) (a_append (st:={ st with next:=st.next+1 }) ho hd hdn hx hh hy hv ht hs hb hz hm hby h63)
theorem less_own {t n:Nat} {st:St} (e s:Nat) (h0:Nat.blt 0 s=true) (hn0:Nat.ble n0 st.next=true) (ht:getE st.env t=some (.lit (.slice none 0 0))) :
    Less P n0 st { env:=(t,.own st.next) :: st.env,heap:=(st.next,some (.row e s [])) :: st.heap,next:=st.next+1,nt:=st.nt }:=fun F base w0 ρ a w hH hE=>by
  have hv:=lit_inv (hE.slot t _ ht)
  have hnn:ρ st.next=none:=by
    cases h:ρ st.next with
    | none=>rfl
    | some x=>exact absurd (hH.sup _ _ h).1 (Nat.lt_irrefl _)
  have hext:∀ id x,ρ id=some x→upd ρ st.next (.slice none 0 0) id=some x:=fun id x h=>by rw [upd_ne _ _ (fun e=>by rw [e,hnn] at h;cases h)];exact h
  obtain ⟨q1,q2,q3⟩:=hH.step (ρ':=upd ρ st.next (.slice none 0 0)) (heap':=(st.next,some (.row e s [])) :: st.heap) (next':=st.next+1) (w':=w) st.next none
    ⟨rfl,rfl,rfl,Nat.le_refl _,fun _ _ _=>rfl⟩ (fun k hk=>by cases hk) hext
    (fun id x h=>by
      by_cases e:id=st.next
      · rw [e,upd_same] at h;injection h with h;subst h;exact ⟨by omega,rfl⟩
      · rw [upd_ne _ _ e] at h;have:=hH.sup _ _ h;exact ⟨by omega,this.2⟩)
    (fun j B hne hB=>by
      rw [getH_new,if_neg (Ne.symm hne)] at hB
      obtain ⟨u,hu⟩:=hH.some_of hB
      exact ⟨hB,u,hu,fun _ _ _ e=>by cases e⟩)
    (fun B u b hB hoB hu hb=>by
      rw [upd_same] at hu;injection hu with hu;subst hu
      simp [blockOf] at hb)
    (fun B hB hS hsame=>by
      rw [getH_new,if_pos rfl] at hB;injection hB with hB;subst hB
      exact ⟨Nat.le_of_ble_eq_true h0,_,[],upd_same _ _ _,⟨World.ownsRow_nil w 0 e s,fun b hb=>by cases hb⟩,fun i hi=>by simp at hi,fun i j hi=>by simp at hi⟩)
  refine ⟨_,q1,?_,fun j hj=>upd_ne _ _ (by have:=Nat.le_of_ble_eq_true hn0;omega)⟩
  have h2:=hE.mono q2 q3 hext
  refine ⟨h2.size,h2.defers,fun x v hx=>?_⟩
  simp only [getE] at hx
  cases hb:Nat.beq t x with
  | true=>
    rw [hb] at hx
    simp only [cond_true,Option.some.injEq] at hx
    subst hx
    have:=Nat.eq_of_beq_eq_true hb
    subst this
    exact .own (by rw [hv];exact upd_same _ _ _)
  | false=>
    rw [hb] at hx
    exact h2.slot x v hx
theorem less_fro {id e s:Nat} {l:List (List V)} {st:St} (hh:getH st.heap id=some (.row e s l)):Less P n0 st { st with heap:=(id,some (.fro l)) :: st.heap }:=fun F base w0 ρ a w hH hE=>by
  obtain ⟨h0,r,xs,h1,⟨h2,h2b⟩,h3,h4⟩:=hH.blk _ _ hh
  have hS:∀ b,Stab F ρ st.heap b→Stab F ρ ((id,some (.fro l)) :: st.heap) b:=fun b h=>⟨h.1,fun j B u hB ho hu=>by
    rw [getH_new] at hB
    split at hB
    · injection hB with hB;subst hB;cases ho
    · exact h.2 j B u hB ho hu⟩
  have hSo:∀ b,blockOf r=some b→Stab F ρ ((id,some (.fro l)) :: st.heap) b:=fun b hb=>by
    have hob:=hH.owned hh rfl h1 hb
    refine ⟨hH.hF b hob.1,fun j B u hB ho hu hub=>?_⟩
    rw [getH_new] at hB
    split at hB
    · injection hB with hB;subst hB;cases ho
    · rename_i hji
      exact hji (hH.inj id j _ B r u b hh hB rfl ho h1 hu hb hub)
  refine ⟨ρ,⟨⟨hH.below,hH.hbase,hH.sup,fun i j B B' u u' b hB hB' ho ho' hu hu' hb hb'=>?_,fun j B hB=>?_⟩,hH.hF⟩,hE.mono (Same.refl _ _) (fun b h _=>hS b h) (fun _ _ h=>h),fun _ _=>rfl⟩
  · rw [getH_new] at hB hB'
    split at hB
    · injection hB with hB;subst hB;cases ho
    · split at hB'
      · injection hB' with hB';subst hB';cases ho'
      · exact hH.inj i j B B' u u' b hB hB' ho ho' hu hu' hb hb'
  · rw [getH_new] at hB
    split at hB
    · rename_i e;subst e
      injection hB with hB;subst hB
      refine ⟨r,h1,row_ro h0 h2 h3 h4 (fun b h _=>hS b h) hSo,fun a n c hr=>?_⟩
      rcases h2.2 with ⟨rfl,_⟩ | ⟨g,cap,cur,rfl,_⟩
      · cases hr
      · injection hr with hr;injection hr with hr;rw [← hr]
    · exact (hH.blk j B hB).mono (Same.refl _ _) (fun b h _=>hS b h) (fun _ _ h=>h) (fun _ _ _ _ _ _=>rfl)
end
end Go.Proofs.YtendheafcbickaaGreat
end
section
namespace Go.Proofs.YtendheafcbickaaGreat
open Go.RowKit
section
variable {P:Program} {n0:Nat} {ops:List Oper} {o:Oper} {rest:List Oper} {st:St} {Q:St→Prop}
def binV (op:BinOp) (u v:Value):Option Value:=
  match u,v with
  | .int k m,.int k' n=>bif decide (k=k') then (match op with
      | .add=>some (.int k (k.wrap (m+n)))
      | .sub=>some (.int k (k.wrap (m - n)))
      | .mul=>some (.int k (k.wrap (m * n)))
      | .and=>some (.int k (bitsI .and k m n))
      | .or=>some (.int k (bitsI .or k m n))
      | .xor=>some (.int k (bitsI .xor k m n))
      | .andNot=>some (.int k (bitsI .andNot k m n))
      | _=>none) else none
  | _,_=>none
theorem binV_spec {op:BinOp} {T yt:TypeId} {x y:Operand} {u v r:Value} {G:List Nat} (ho:o.op = .binOp op T x y yt) (hx:opE st.env x=some (.lit u)) (hy:opE st.env y=some (.lit v)) (h:binV op u v=some r):QStep P G o st (.lit r):=by
  unfold binV at h
  split at h
  · rename_i k m k' n
    cases hk:decide (k=k') with
    | false=>rw [hk] at h;cases h
    | true=>
      rw [hk] at h
      have hk:=of_decide_eq_true hk
      subst hk
      simp only [cond_true] at h
      split at h
      · injection h with h;subst h;exact q_add ho hx hy
      · injection h with h;subst h;exact q_sub ho hx hy
      · injection h with h;subst h;exact q_mul ho hx hy
      · injection h with h;subst h;exact q_and ho hx hy
      · injection h with h;subst h;exact q_or ho hx hy
      · injection h with h;subst h;exact q_xor ho hx hy
      · injection h with h;subst h;exact q_andNot ho hx hy
      · cases h
  · cases h
def unV (op:UnOp) (u:Value):Option Value:=
  match op,u with
  | .not,.bool b=>some (.bool (bif b then false else true))
  | .neg,.int k n=>some (.int k (k.wrap (0 - n)))
  | .xor,.int k n=>some (.int k (bitsI .xor k (if k.signed then -1 else k.max) n))
  | _,_=>none
theorem unV_spec {op:UnOp} {T:TypeId} {x:Operand} {u r:Value} {G:List Nat} (ho:o.op = .unOp op T x) (hx:opE st.env x=some (.lit u)) (h:unV op u=some r):QStep P G o st (.lit r):=by
  unfold unV at h
  split at h
  · injection h with h;subst h
    rename_i b
    have:=q_not (P:=P) (G:=G) ho hx
    cases b <;> exact this
  · injection h with h;subst h;exact q_neg ho hx
  · injection h with h;subst h;exact q_xorU ho hx
  · cases h
def loadV (P:Program) (G:List Nat) (st:St) (T:TypeId) (p:V):Option V:=
  match p with
  | .rp cs=>match aggT P T with
    | some true=>match sizeT P T with
      | some n=>bif Nat.ble n cs.length then some (.agg (cs.take n)) else none
      | none=>none
    | some false=>cs[0]?
    | none=>none
  | .ptr id 0 _ j=>match getH st.heap id with
    | some (.box _ cs)=>bif notIn id G then (match aggT P T with
      | some true=>match sizeT P T with
        | some n=>bif Nat.ble n (cs.drop j).length then some (.agg ((cs.drop j).take n)) else none
        | none=>none
      | some false=>(cs.drop j)[0]?
      | none=>none) else none
    | _=>none
  | _=>none
theorem loadV_spec {T:TypeId} {x:Operand} {p v:V} {G:List Nat} (ho:o.op = .load T x) (hx:opE st.env x=some p) (h:loadV P G st T p=some v):QStep P G o st v:=by
  have key:∀ cs:List V,Reads G st p cs→(match aggT P T with
    | some true=>match sizeT P T with
      | some n=>bif Nat.ble n cs.length then some (V.agg (cs.take n)) else none
      | none=>none
    | some false=>cs[0]?
    | none=>none)=some v→QStep P G o st v:=by
    intro cs hr h
    cases hT:aggT P T with
    | none=>rw [hT] at h;cases h
    | some b=>
      rw [hT] at h
      cases b with
      | false=>exact q_load_one ho hx hT hr h
      | true=>
        cases hn:sizeT P T with
        | none=>simp only [hn] at h;cases h
        | some n=>
          simp only [hn] at h
          cases hb:Nat.ble n cs.length with
          | false=>rw [hb] at h;cases h
          | true=>
            rw [hb] at h
            injection h with h;subst h
            exact q_load_agg ho hx hT hn hr (Nat.le_of_ble_eq_true hb)
  cases p with
  | rp cs=>exact key cs reads_rp h
  | ptr id i s j=>
    cases i with
    | succ=>cases h
    | zero=>
      cases hh:getH st.heap id with
      | none=>simp only [loadV,hh] at h;cases h
      | some B=>
        cases B with
        | box t cs=>
          simp only [loadV,hh] at h
          cases hG:notIn id G with
          | false=>rw [hG] at h;cases h
          | true=>
            rw [hG] at h
            exact key (cs.drop j) (reads_box hh hG) h
        | _=>simp only [loadV,hh] at h;cases h
  | _=>cases h
def lenV (P:Program) (st:St) (t:TypeId) (x:V):Option V:=
  match P.underlying t with
  | some (.slice _)=>match x with
    | .ro l=>some (.lit (.int .i64 l.length))
    | .lit (.slice _ n _)=>some (.lit (.int .i64 n))
    | .own id=>match getH st.heap id with
      | some (.row _ _ l)=>some (.lit (.int .i64 l.length))
      | some (.fro l)=>some (.lit (.int .i64 l.length))
      | _=>none
    | _=>none
  | some .string=>match x with
    | .lit (.string s)=>some (.lit (.int .i64 s.size))
    | _=>none
  | some (.array n _)=>some (.lit (.int .i64 n))
  | _=>none
theorem lenV_spec {t:TypeId} {x:Operand} {p v:V} {G:List Nat} (ho:o.op = .call { callee:=.builtin .len,args:=#[x],argTypes:=#[t] }) (hx:opE st.env x=some p) (h:lenV P st t p=some v):QStep P G o st v:=by
  unfold lenV at h
  split at h
  · rename_i e ht
    split at h
    · injection h with h;subst h;exact q_len_ro ho hx ht
    · injection h with h;subst h;exact q_len_nil ho hx ht
    · split at h
      · rename_i hh;injection h with h;subst h;exact q_len_row ho hx hh ht
      · rename_i hh;injection h with h;subst h;exact q_len_fro ho hx hh ht
      · cases h
    · cases h
  · rename_i ht
    split at h
    · injection h with h;subst h;exact q_len_str ho hx ht
    · cases h
  · rename_i ht
    injection h with h;subst h;exact q_len_arr ho ht
  · cases h
def stepV (P:Program) (G:List Nat) (st:St):Op→Option V
  | .move x=>opE st.env x
  | .assign x=>opE st.env x
  | .pick c x y=>match opE st.env c with
    | some (.lit (.bool b))=>bif b then opE st.env x else opE st.env y
    | _=>none
  | .binOp op _ x y _=>match opE st.env x with
    | some (.lit u)=>match opE st.env y with
      | some (.lit v)=>match binV op u v with
        | some r=>some (.lit r)
        | none=>none
      | _=>none
    | _=>none
  | .unOp op _ x=>match opE st.env x with
    | some (.lit u)=>match unV op u with
      | some r=>some (.lit r)
      | none=>none
    | _=>none
  | .load T x=>match opE st.env x with
    | some p=>loadV P G st T p
    | none=>none
  | .fieldAddr T x f=>match fieldOff P T f with
    | some n=>match opE st.env x with
      | some (.ptr id i s j)=>some (.ptr id i s (j+n))
      | some (.rp cs)=>some (.rp (cs.drop n))
      | _=>none
    | none=>none
  | .extract x i=>match opE st.env x with
    | some (.tup vs)=>vs[i]?
    | _=>none
  | .convert T U x=>match P.underlying T with
    | some d=>match P.underlying U with
      | some (.int k')=>match opE st.env x with
        | some (.lit (.int _ n))=>some (.lit (.int k' (k'.wrap n)))
        | _=>none
      | some .string=>match d with
        | .string=>match opE st.env x with
          | some (.lit (.string s))=>some (.lit (.string s))
          | _=>none
        | _=>none
      | _=>none
    | none=>none
  | .build T parts=>match zeroT P T with
    | some z=>match placeT P T with
      | some pl=>match partsE st.env parts.toList with
        | some ps=>match fillV pl z ps with
          | some cs=>some (.agg cs)
          | none=>none
        | none=>none
      | none=>none
    | none=>none
  | .call { callee:=.builtin .len,args:=⟨[x]⟩,argTypes:=⟨[t]⟩ }=>match opE st.env x with
    | some p=>lenV P st t p
    | none=>none
  | .call { callee:=.builtin .max,args:=⟨[x,y]⟩,argTypes:=_ }=>match opE st.env x with
    | some (.lit (.int k m))=>match opE st.env y with
      | some (.lit (.int k' n))=>bif decide (k=k') then some (.lit (.int k (max m n))) else none
      | _=>none
    | _=>none
  | .call { callee:=.builtin .min,args:=⟨[x,y]⟩,argTypes:=_ }=>match opE st.env x with
    | some (.lit (.int k m))=>match opE st.env y with
      | some (.lit (.int k' n))=>bif decide (k=k') then some (.lit (.int k (min m n))) else none
      | _=>none
    | _=>none
  | _=>none
theorem stepV_spec {v:V} {G:List Nat} (h:stepV P G st o.op=some v):QStep P G o st v:=by
  generalize hop:o.op=op at h
  unfold stepV at h
  split at h
  · exact q_move hop h
  · exact q_assign hop h
  · split at h
    · rename_i b hc
      cases b
      · exact q_pick_f hop hc h
      · exact q_pick_t hop hc h
    · cases h
  · split at h
    · rename_i hx
      split at h
      · rename_i hy
        split at h
        · rename_i hr;injection h with h;subst h;exact binV_spec hop hx hy hr
        · cases h
      · cases h
    · cases h
  · split at h
    · rename_i hx
      split at h
      · rename_i hr;injection h with h;subst h;exact unV_spec hop hx hr
      · cases h
    · cases h
  · split at h
    · rename_i hx;exact loadV_spec hop hx h
    · cases h
  · split at h
    · rename_i hn
      split at h
      · rename_i hx;injection h with h;subst h;exact q_field_ptr hop hx hn
      · rename_i hx;injection h with h;subst h;exact q_field_rp hop hx hn
      · cases h
    · cases h
  · split at h
    · rename_i hx;exact q_extract hop hx h
    · cases h
  · split at h
    · rename_i d hT
      split at h
      · rename_i hU
        split at h
        · rename_i hx;injection h with h;subst h;exact q_conv_int hop hx hT hU
        · cases h
      · rename_i hU
        split at h
        · split at h
          · rename_i hx;injection h with h;subst h;exact q_conv_str hop hx hT hU
          · cases h
        · cases h
      · cases h
    · cases h
  · split at h
    · rename_i hz
      split at h
      · rename_i hpl
        split at h
        · rename_i hp
          split at h
          · rename_i hf;injection h with h;subst h;exact q_build hop hz hpl hp hf
          · cases h
        · cases h
      · cases h
    · cases h
  · split at h
    · rename_i hx;exact lenV_spec hop hx h
    · cases h
  · split at h
    · rename_i k m hx
      split at h
      · rename_i k' n hy
        cases hk:decide (k=k') with
        | false=>rw [hk] at h;cases h
        | true=>
          rw [hk] at h
          have hk:=of_decide_eq_true hk
          subst hk
          injection h with h;subst h
          exact q_max hop hx hy
      · cases h
    · cases h
  · split at h
    · rename_i k m hx
      split at h
      · rename_i k' n hy
        cases hk:decide (k=k') with
        | false=>rw [hk] at h;cases h
        | true=>
          rw [hk] at h
          have hk:=of_decide_eq_true hk
          subst hk
          injection h with h;subst h
          exact q_min hop hx hy
      · cases h
    · cases h
  · cases h
def cmpV (env:List (Nat×V)):Op→Option Prop
  | .binOp op _ x y _=>match opE env x with
    | some (.lit (.int k m))=>match opE env y with
      | some (.lit (.int k' n))=>bif decide (k=k') then (match op with
        | .lss=>some (m<n)
        | .leq=>some (m≤n)
        | .gtr=>some (n<m)
        | .geq=>some (n≤m)
        | .eql=>some (m=n)
        | .neq=>some (¬ m=n)
        | _=>none) else none
      | _=>none
    | _=>none
  | _=>none
theorem cmpV_spec {p:Prop} {G:List Nat} (h:cmpV st.env o.op=some p):(p→QStep P G o st (.lit (.bool true)))∧(¬ p→QStep P G o st (.lit (.bool false))):=by
  have key:∀ (p:Prop) [Decidable p],QStep P G o st (.lit (.bool (decide p)))→(p→QStep P G o st (.lit (.bool true)))∧(¬ p→QStep P G o st (.lit (.bool false))):=fun p _ h=>⟨fun hp=>by rw [decide_eq_true hp] at h;exact h,fun hp=>by rw [decide_eq_false hp] at h;exact h⟩
  generalize hop:o.op=op at h
  unfold cmpV at h
  split at h
  · split at h
    · rename_i k m hx
      split at h
      · rename_i k' n hy
        cases hk:decide (k=k') with
        | false=>rw [hk] at h;cases h
        | true=>
          rw [hk] at h
          have hk:=of_decide_eq_true hk
          subst hk
          simp only [cond_true] at h
          split at h
          · injection h with h;subst h;exact key _ (q_lss hop hx hy)
          · injection h with h;subst h;exact key _ (q_leq hop hx hy)
          · injection h with h;subst h;exact key _ (q_gtr hop hx hy)
          · injection h with h;subst h;exact key _ (q_geq hop hx hy)
          · injection h with h;subst h;exact key _ (q_eql hop hx hy)
          · injection h with h;subst h;exact key _ (q_neq hop hx hy)
          · cases h
      · cases h
    · cases h
  · cases h
def rawV (env:List (Nat×V)) (P:Program):Op→Option (IntKind×Int)
  | .binOp op _ x y _=>match opE env x with
    | some (.lit (.int k m))=>match opE env y with
      | some (.lit (.int k' n))=>bif decide (k=k') then (match op with
        | .add=>some (k,m+n)
        | .sub=>some (k,m - n)
        | .mul=>some (k,m * n)
        | _=>none) else none
      | _=>none
    | _=>none
  | .convert T U x=>match P.underlying U with
    | some (.int k')=>match P.underlying T with
      | some _=>match opE env x with
        | some (.lit (.int _ n))=>some (k',n)
        | _=>none
      | none=>none
    | _=>none
  | _=>none
theorem rawV_spec {k:IntKind} {r:Int} {G:List Nat} (h:rawV st.env P o.op=some (k,r)):QStep P G o st (.lit (.int k (k.wrap r))):=by
  generalize hop:o.op=op at h
  unfold rawV at h
  split at h
  · split at h
    · rename_i k m hx
      split at h
      · rename_i k' n hy
        cases hk:decide (k=k') with
        | false=>rw [hk] at h;cases h
        | true=>
          rw [hk] at h
          have hk:=of_decide_eq_true hk
          subst hk
          simp only [cond_true] at h
          split at h
          · injection h with h;injection h with h1 h2;subst h1;subst h2;exact q_add hop hx hy
          · injection h with h;injection h with h1 h2;subst h1;subst h2;exact q_sub hop hx hy
          · injection h with h;injection h with h1 h2;subst h1;subst h2;exact q_mul hop hx hy
          · cases h
      · cases h
    · cases h
  · split at h
    · rename_i hU
      split at h
      · rename_i hT
        split at h
        · rename_i hx;injection h with h;injection h with h1 h2;subst h1;subst h2;exact q_conv_int hop hx hT hU
        · cases h
      · cases h
    · cases h
  · cases h
def listV (heap:List (Nat×Option Blk)):V→Option (List (List V))
  | .ro l=>some l
  | .own id=>match getH heap id with
    | some (.row _ _ l)=>some l
    | some (.fro l)=>some l
    | _=>none
  | _=>none
inductive Norm:List V→List V→Prop
  | nil:Norm [] []
  | cons {c:V} {cs ds:List V} (h:Norm cs ds):Norm (c :: cs) (c :: ds)
theorem Norm.eq {cs ds:List V} (h:Norm cs ds):cs=ds:=by
  induction h with
  | nil=>rfl
  | cons h ih=>rw [ih]
inductive NormV:V→V→Prop
  | agg {cs ds:List V} (h:Norm cs ds):NormV (.agg cs) (.agg ds)
  | rp {cs ds:List V} (h:Norm cs ds):NormV (.rp cs) (.rp ds)
  | same {v:V}:NormV v v
theorem NormV.eq {v u:V} (h:NormV v u):v=u:=by
  cases h with
  | agg h=>rw [h.eq]
  | rp h=>rw [h.eq]
  | same=>rfl
end
section
variable {P:Program} {n0:Nat} {ops:List Oper} {o:Oper} {rest:List Oper} {env:List (Nat×V)} {heap:List (Nat×Option Blk)} {next nt:Nat} {Q:St→Prop}
theorem x_q {v:V} {d:Nat} (hg:guardV env ops o.guard=some true) (hd:o.dst=some d) (hdn:Nat.blt d nt=true) (hq:QStep P [] o ⟨env,heap,next,nt⟩ v) (h:RunL P n0 ops.toArray rest ⟨(d,v) :: env,heap,next,nt⟩ Q):RunL P n0 ops.toArray (o :: rest) ⟨env,heap,next,nt⟩ Q:=
  l_q (v:=v) hg (by rw [hd];exact hdn) hq (by rw [hd];exact h)
theorem s_skip {d:Nat} (hg:guardV env ops o.guard=some false:=by rfl) (hd:o.dst=some d:=by rfl) (hdn:Nat.blt d nt=true:=by rfl) (h:RunL P n0 ops.toArray rest ⟨(d,.und) :: env,heap,next,nt⟩ Q):RunL P n0 ops.toArray (o :: rest) ⟨env,heap,next,nt⟩ Q:=
  l_skip hg (by rw [hd];exact hdn) (by rw [hd];exact h)
theorem s_q {v u:V} {d:Nat} (hq:stepV P [] ⟨env,heap,next,nt⟩ o.op=some v:=by rfl) (hg:guardV env ops o.guard=some true:=by rfl) (hN:NormV v u:=by first|(apply NormV.agg;repeat' first|exact Norm.nil|apply Norm.cons)|(apply NormV.rp;repeat' first|exact Norm.nil|apply Norm.cons)|exact NormV.same)
    (hd:o.dst=some d:=by rfl) (hdn:Nat.blt d nt=true:=by rfl) (h:RunL P n0 ops.toArray rest ⟨(d,u) :: env,heap,next,nt⟩ Q):RunL P n0 ops.toArray (o :: rest) ⟨env,heap,next,nt⟩ Q:=
  x_q hg hd hdn (by rw [← hN.eq];exact stepV_spec hq) h
theorem s_len {x:Operand} {t e:TypeId} {v:V} {l:List (List V)} {n d:Nat} (ho:o.op = .call { callee:=.builtin .len,args:=#[x],argTypes:=#[t] }:=by rfl) (hx:opE env x=some v:=by rfl) (hl:listV heap v=some l:=by rfl)
    (ht:P.underlying t=some (.slice e):=by rfl) (hn:l.length=n:=by first|exact List.length_map _|(simp only [List.length_map,List.length_append,List.length_cons,List.length_nil,List.length_set];rfl)|rfl)
    (hg:guardV env ops o.guard=some true:=by rfl) (hd:o.dst=some d:=by rfl) (hdn:Nat.blt d nt=true:=by rfl) (h:RunL P n0 ops.toArray rest ⟨(d,.lit (.int .i64 n)) :: env,heap,next,nt⟩ Q):RunL P n0 ops.toArray (o :: rest) ⟨env,heap,next,nt⟩ Q:=by
  subst hn
  refine x_q hg hd hdn (lenV_spec (P:=P) ho hx ?_) h
  unfold lenV
  rw [ht]
  cases v with
  | ro l'=>simp only [listV,Option.some.injEq] at hl;subst hl;rfl
  | own id=>
    simp only [listV] at hl
    split at hl
    · rename_i hh;injection hl with hl;subst hl;simp only [hh]
    · rename_i hh;injection hl with hl;subst hl;simp only [hh]
    · cases hl
  | _=>cases hl
theorem lit0:(0:Int)=((0:Nat):Int):=rfl
theorem lit1:(1:Int)=((1:Nat):Int):=rfl
theorem lit2:(2:Int)=((2:Nat):Int):=rfl
theorem castp {k:Nat} (h:0<k):(k:Int) - 1=((k - 1:Nat):Int):=by omega
theorem lit3:(3:Int)=((3:Nat):Int):=rfl
theorem s_i {v u:V} {d:Nat} (hg:guardV env ops o.guard=some true:=by rfl) (hd:o.dst=some d:=by rfl) (hdn:Nat.blt d nt=true:=by rfl)
    (hq:QStep P [] o ⟨env,heap,next,nt⟩ v:=by
      first
        | exact q_index_ro rfl rfl rfl (by first|exact lit0|exact lit1|exact lit2|exact lit3|rfl|exact castp (by omega)|exact (Int.toNat_of_nonneg (by omega)).symm) (by first|omega|(simp only [List.length_map];omega)) rfl rfl rfl (eAt_map _ (by omega))
        | exact q_index_row rfl rfl rfl rfl (by first|exact lit0|exact lit1|exact lit2|exact lit3|rfl|exact castp (by omega)|exact (Int.toNat_of_nonneg (by omega)).symm) (by first|omega|(simp only [List.length_map,List.length_append,List.length_cons,List.length_nil];omega)) rfl rfl
        | exact q_load_one rfl rfl rfl (reads_row rfl (by first|omega|(simp only [List.length_map];omega)) rfl (eAt_map _ (by omega))) rfl
        | exact q_load_agg rfl rfl rfl rfl (reads_row rfl (by first|omega|(simp only [List.length_map];omega)) rfl (eAt_map _ (by omega))) (Nat.le_of_ble_eq_true rfl)
        | exact q_shl rfl rfl rfl (by omega)
        | exact q_shr rfl rfl rfl (by omega)
        | exact q_quo rfl rfl rfl (by omega)
        | exact q_rem rfl rfl rfl (by omega)
        | exact q_index_str rfl rfl rfl rfl (by omega) rfl
        | exact q_index_arr rfl rfl rfl rfl rfl (by omega) rfl
        | exact q_str_add rfl rfl rfl (by omega))
    (hN:NormV v u:=by first|(apply NormV.agg;repeat' first|exact Norm.nil|apply Norm.cons)|(apply NormV.rp;repeat' first|exact Norm.nil|apply Norm.cons)|exact NormV.same)
    (h:RunL P n0 ops.toArray rest ⟨(d,u) :: env,heap,next,nt⟩ Q):RunL P n0 ops.toArray (o :: rest) ⟨env,heap,next,nt⟩ Q:=x_q hg hd hdn (by rw [← hN.eq];exact hq) h
theorem s_cmp {p:Prop} {d:Nat} (hq:cmpV env o.op=some p:=by rfl) (hg:guardV env ops o.guard=some true:=by rfl) (hd:o.dst=some d:=by rfl) (hdn:Nat.blt d nt=true:=by rfl)
    (ht:p→RunL P n0 ops.toArray rest ⟨(d,.lit (.bool true)) :: env,heap,next,nt⟩ Q) (hf:¬ p→RunL P n0 ops.toArray rest ⟨(d,.lit (.bool false)) :: env,heap,next,nt⟩ Q):RunL P n0 ops.toArray (o :: rest) ⟨env,heap,next,nt⟩ Q:=by
  by_cases hp:p
  · exact x_q hg hd hdn ((cmpV_spec (st:=⟨env,heap,next,nt⟩) hq).1 hp) (ht hp)
  · exact x_q hg hd hdn ((cmpV_spec (st:=⟨env,heap,next,nt⟩) hq).2 hp) (hf hp)
theorem s_nw {k:IntKind} {r:Int} {d:Nat} (hq:rawV env P o.op=some (k,r):=by rfl) (hg:guardV env ops o.guard=some true:=by rfl) (hr:k.wrap r=r:=by first|(rw [IntKind.wrap_i64];omega)|(rw [IntKind.wrap_u64];omega)|(rw [IntKind.wrap_u8];omega))
    (hd:o.dst=some d:=by rfl) (hdn:Nat.blt d nt=true:=by rfl) (h:RunL P n0 ops.toArray rest ⟨(d,.lit (.int k r)) :: env,heap,next,nt⟩ Q):RunL P n0 ops.toArray (o :: rest) ⟨env,heap,next,nt⟩ Q:=
  x_q hg hd hdn (by have:=rawV_spec (st:=⟨env,heap,next,nt⟩) (P:=P) (G:=[]) hq;rw [hr] at this;exact this) h
theorem s_alloc {T:TypeId} {d:Nat} {cs ds:List V} (ho:o.op = .alloc T:=by rfl) (hg:guardV env ops o.guard=some true:=by rfl) (hd:o.dst=some d:=by rfl) (hdn:Nat.blt d nt=true:=by rfl) (hn0:Nat.ble n0 next=true:=by rfl) (hz:zeroT P T=some cs:=by rfl) (hN:Norm cs ds:=by repeat' first|exact Norm.nil|apply Norm.cons)
    (h:RunL P n0 ops.toArray rest ⟨(d,.ptr next 0 0 0) :: env,(next,some (.box T ds)) :: heap,next+1,nt⟩ Q):RunL P n0 ops.toArray (o :: rest) ⟨env,heap,next,nt⟩ Q:=by
  have e:=hN.eq
  subst e
  exact l_g hg (g_alloc (st:=⟨env,heap,next,nt⟩) ho hd hdn hn0 hz) h
theorem s_box {T:TypeId} {d:Nat} {x:Operand} {v:V} {cs ds:List V} (ho:o.op = .box T x:=by rfl) (hg:guardV env ops o.guard=some true:=by rfl) (hd:o.dst=some d:=by rfl) (hdn:Nat.blt d nt=true:=by rfl) (hn0:Nat.ble n0 next=true:=by rfl) (hx:opE env x=some v:=by rfl) (hf:flat v=some cs:=by rfl) (hN:Norm cs ds:=by repeat' first|exact Norm.nil|apply Norm.cons)
    (h:RunL P n0 ops.toArray rest ⟨(d,.ptr next 0 0 0) :: env,(next,some (.box T ds)) :: heap,next+1,nt⟩ Q):RunL P n0 ops.toArray (o :: rest) ⟨env,heap,next,nt⟩ Q:=by
  have e:=hN.eq
  subst e
  exact l_g hg (g_box (st:=⟨env,heap,next,nt⟩) ho hd hdn hn0 hx hf) h
theorem s_store {T:TypeId} {x y:Operand} {id s j t:Nat} {cs vs ds:List V} {v:V} (ho:o.op = .store T x y:=by rfl) (hg:guardV env ops o.guard=some true:=by rfl) (hd:o.dst=none:=by rfl) (hx:opE env x=some (.ptr id 0 s j):=by rfl) (hh:getH heap id=some (.box t cs):=by rfl) (hy:opE env y=some v:=by rfl)
    (hf:flat v=some vs:=by rfl) (hT:sizeT P T=some vs.length:=by rfl) (hl:Nat.ble (j+vs.length) cs.length=true:=by rfl) (hN:Norm (setAt j vs cs) ds:=by repeat' first|exact Norm.nil|apply Norm.cons)
    (h:RunL P n0 ops.toArray rest ⟨env,(id,some (.box t ds)) :: heap,next,nt⟩ Q):RunL P n0 ops.toArray (o :: rest) ⟨env,heap,next,nt⟩ Q:=by
  have e:=hN.eq
  subst e
  exact l_g hg (g_store_box (st:=⟨env,heap,next,nt⟩) ho hd hx hh hy hf hT hl) h
theorem s_call {f:FuncId} {xs:Array Operand} {ts:Array TypeId} {vs vs':List V} {r:V} {d:Nat} (hf:Fn P f vs' r) (ho:o.op = .call { callee:=.value (.func f),args:=xs,argTypes:=ts }:=by rfl) (hg:guardV env ops o.guard=some true:=by rfl) (hd:o.dst=some d:=by rfl) (hdn:Nat.blt d nt=true:=by rfl)
    (hx : argsE env xs.toList = some vs := by rfl) (hb : belowV.belowL 0 vs = true := by rfl) (hw : WkL vs vs' := by ((repeat' (first | exact WkL.nil | refine WkL.cons ?_ ?_ | exact Wk.refl _ | exact Wk.nil | refine Wk.agg ?_ | refine Wk.tup ?_)); first | done | fail "args")) (h : RunL P n0 ops.toArray rest ⟨(d, r) :: env, heap, next, nt⟩ Q) : RunL P n0 ops.toArray (o :: rest) ⟨env, heap, next, nt⟩ Q :=
  l_g hg (g_call (st:=⟨env,heap,next,nt⟩) ho (by rw [hd];exact hdn) hx hb (fn_weak hf hw)) (by rw [hd];exact h)
theorem s_ask {f:FuncId} {xs:Array Operand} {ts:Array TypeId} {vs vs':List V} {b:Bool} {d:Nat} (hf:Fn P f vs' (.lit (.bool b))) (ho:o.op = .call { callee:=.value (.func f),args:=xs,argTypes:=ts }:=by rfl) (hg:guardV env ops o.guard=some true:=by rfl) (hd:o.dst=some d:=by rfl) (hdn:Nat.blt d nt=true:=by rfl)
    (hx : argsE env xs.toList = some vs := by rfl) (hb : belowV.belowL 0 vs = true := by rfl) (hw : WkL vs vs' := by ((repeat' (first | exact WkL.nil | refine WkL.cons ?_ ?_ | exact Wk.refl _ | exact Wk.nil | refine Wk.agg ?_ | refine Wk.tup ?_)); first | done | fail "args")) (ht : b = true → RunL P n0 ops.toArray rest ⟨(d, .lit (.bool true)) :: env, heap, next, nt⟩ Q) (hff : b = false → RunL P n0 ops.toArray rest ⟨(d, .lit (.bool false)) :: env, heap, next, nt⟩ Q) : RunL P n0 ops.toArray (o :: rest) ⟨env, heap, next, nt⟩ Q := by
  cases b
  · exact s_call hf ho hg hd hdn hx hb hw (hff rfl)
  · exact s_call hf ho hg hd hdn hx hb hw (ht rfl)
end
section
variable {P:Program} {n0:Nat} {st st':St}
theorem cov_int {env:List (Nat×V)} {t:Nat} {k:IntKind} {m n:Int} (h:getE env t=some (.lit (.int k m))) (hm:m=n):getE env t=some (.lit (.int k n)):=by rw [h,hm]
theorem less_to (hc:coverE st.env st'.env:=by repeat' (first|exact True.intro|exact rfl|exact cov_int rfl (by first|rfl|omega|(dsimp only;omega))|refine And.intro ?_ ?_)) (hh:coverH st.heap st'.heap:=by repeat' (first|exact True.intro|exact rfl|refine And.intro ?_ ?_))
    (hn:Nat.ble st'.next st.next=true:=by rfl) (hn0:Nat.ble n0 st'.next=true:=by rfl) (he:belowE st'.next st'.env=true:=by rfl) (hb:belowH st'.next st'.heap=true:=by rfl) (hnt:st'.nt=st.nt:=by rfl):Less P n0 st st':=by
  have h1:Less P n0 st { env:=st'.env,heap:=st'.heap,next:=st.next,nt:=st'.nt }:=less_heap rfl hnt hc hh
  have h2:Less P n0 { env:=st'.env,heap:=st'.heap,next:=st.next,nt:=st'.nt } { env:=st'.env,heap:=st'.heap,next:=st'.next,nt:=st'.nt }:=less_cut st'.next hn0 hn he hb
  exact h1.trans h2
theorem r_for {X:Type} {c:Code} {Q:Exit→St→Prop} (σ:X→St) (Φ:X→Prop) (μ:X→Nat) (x0:X) (hx:Φ x0) (h0:Less P n0 st (σ x0))
    (round:∀ x,Φ x→Run P n0 c (σ x) (ThenQ (fun st'=>∃ x',μ x' < μ x∧Φ x' ∧ Less P n0 st' (σ x')) Q)):Run P n0 (.loop c) st Q:=
  r_loop (X:={x:X // Φ x}) (fun x=>σ x.1) (fun x=>μ x.1) ⟨x0,hx⟩ h0 (fun x=>r_mono (round x.1 x.2) (fun e st' hq=>by
    cases e with
    | normal=>obtain ⟨x',h1,h2,h3⟩:=hq;exact ⟨⟨x',h2⟩,h1,h3⟩
    | _=>exact hq))
theorem r_cut {Z:Type} {x y:Code} {Q:Exit→St→Prop} (σ:Z→St) (Φ:Z→Prop) (h:Run P n0 x st (ThenQ (fun st'=>∃ z,Φ z∧Less P n0 st' (σ z)) Q)) (h2:∀ z,Φ z→Run P n0 y (σ z) Q):Run P n0 (.seq x y) st Q:=by
  refine r_seq (r_mono h (fun e st' hq=>?_))
  cases e with
  | normal=>
    obtain ⟨z,hz,hl⟩:=hq
    exact r_less hl (h2 z hz)
  | _=>exact hq
theorem thenQ_n {next:St→Prop} {Q:Exit→St→Prop} (h:next st):ThenQ next Q .normal st:=h
theorem thenQ_r {next:St→Prop} {Q:Exit→St→Prop} (h:Q .ret st):ThenQ next Q .ret st:=h
theorem thenQ_e {next:St→Prop} {Q:Exit→St→Prop} {i:Nat} (h:Q (.exit i) st):ThenQ next Q (.exit i) st:=h
theorem blockQ_n {id:Nat} {Q:Exit→St→Prop} (h:Q .normal st):BlockQ id Q .normal st:=h
theorem blockQ_r {id:Nat} {Q:Exit→St→Prop} (h:Q .ret st):BlockQ id Q .ret st:=h
theorem blockQ_x {id:Nat} {Q:Exit→St→Prop} (h:Q .normal st):BlockQ id Q (.exit id) st:=by simp only [BlockQ,Nat.beq_refl,cond_true];exact h
theorem blockQ_e {id i:Nat} {Q:Exit→St→Prop} (hn:Nat.beq i id=false) (h:Q (.exit i) st):BlockQ id Q (.exit i) st:=by simp only [BlockQ,hn,cond_false];exact h
theorem ends_ {fn:Func} {r r' v:V} {e:Exit} (he:e = .ret∨e = .normal:=by first|exact .inl rfl|exact .inr rfl) (hv:resV P st fn.results.toList=some v:=by rfl) (hs:snapV st.heap v=some r':=by rfl) (hr:r' = r):Ends P fn r e st:=⟨he,v,r',hv,hs,by rw [hr];exact .refl _⟩
theorem endw_ {fn:Func} {r r' v:V} {e:Exit} (he:e = .ret∨e = .normal:=by first|exact .inl rfl|exact .inr rfl) (hv:resV P st fn.results.toList=some v:=by rfl) (hs:snapV st.heap v=some r':=by rfl) (hr:Wk r' r):Ends P fn r e st:=⟨he,v,r',hv,hs,hr⟩
end
end Go.Proofs.YtendheafcbickaaGreat
end
section
namespace Go.Proofs.YtendheafcbickaaGreat
open Go.RowKit
def dirM (ms:List Nat):List Edge→Nat
  | []=>0
  | e :: es=>bif Region.binds .any e then ((2 ^ e.on) ||| ms.getD e.on 0) ||| dirM ms es else dirM ms es
def masksFrom (ms:List Nat):List Oper→List Nat
  | []=>ms
  | o :: os=>masksFrom (ms++[dirM ms o.after.toList]) os
def masks (ops:List Oper):List Nat:=masksFrom [] ops
def looks (ops:List Oper) (o:Oper):List Nat:=
  (o.op.operands.toList.filterMap fun | .tmp t=>some t|_=>none) ++
  (match o.guard with
   | some (g,_)=>match ops[g]? with
     | some og=>match og.dst with
       | some d=>[d]
       | none=>[]
     | none=>[]
   | none=>[])
def writersOk (ms:List Nat) (i t:Nat):Nat→List Oper→Bool
  | _,[]=>true
  | j,o :: os=>(match o.dst with|some d=>(bif Nat.beq d t then Nat.testBit (ms.getD i 0) j || Nat.testBit (ms.getD j 0) i else true)|none=>true) && writersOk ms i t (j+1) os
def isW:Op→Bool
  | .store ..=>true
  | .call { callee:=.builtin .append,.. }=>true
  | _=>false
def isWc:Op→Bool
  | .store ..=>true
  | .call ..=>true
  | _=>false
def distinctD:List Oper→Bool
  | []=>true
  | o :: os=>(match o.dst with
    | some d=>os.all (fun o'=>match o'.dst with|some d'=>!Nat.beq d' d|none=>true)
    | none=>true) && distinctD os
def okFrom (ops:List Oper) (ms:List Nat):Nat→List Oper→Bool
  | _,[]=>true
  | i,o :: os=>Nat.beq (ms.getD i 0) (dirM ms o.after.toList) && (o.after.toList.all (fun e=>!Region.binds .any e || Nat.blt e.on i) && ((looks ops o).all (fun t=>writersOk ms i t 0 ops) && okFrom ops ms (i+1) os))
def okText (ops:List Oper):Bool:=distinctD ops && okFrom ops (masks ops) 0 ops
def chainedF (ms:List Nat) (i:Nat) (p:Nat→Bool):Nat→List Oper→Bool
  | _,[]=>true
  | j,o :: os=>(!p j || (Nat.beq j i || (Nat.testBit (ms.getD i 0) j || Nat.testBit (ms.getD j 0) i))) && chainedF ms i p (j+1) os
def vis (ops:List Oper) (W:Nat→Nat→Bool) (b0 i id:Nat):Bool:=chainedF (masks ops) i (fun j=>W j id) 0 ops && (Nat.blt id b0 || Nat.testBit ((masks ops).getD i 0) (id - b0))
theorem okFrom_spec {ops:List Oper} {ms:List Nat}:∀ {os:List Oper} {i:Nat},okFrom ops ms i os=true → ∀ j o,os[j]? = some o →
    ms.getD (i+j) 0=dirM ms o.after.toList∧(∀ e ∈ o.after.toList,Region.binds .any e=true→e.on<i+j) ∧ ∀ t ∈ looks ops o,writersOk ms (i+j) t 0 ops=true
  | [],i,_,j,o,h=>by simp at h
  | o' :: os,i,hk,j,o,h=>by
    simp only [okFrom,Bool.and_eq_true] at hk
    obtain ⟨h1,h2,h3,h4⟩:=hk
    cases j with
    | zero=>
      simp only [List.getElem?_cons_zero,Option.some.injEq] at h
      subst h
      refine ⟨Nat.eq_of_beq_eq_true h1,fun e he hb=>?_,fun t ht=>?_⟩
      · rw [List.all_eq_true] at h2
        have:=h2 e he
        rw [hb] at this
        simpa using this
      · rw [List.all_eq_true] at h3
        exact h3 t ht
    | succ j=>
      have:=okFrom_spec h4 j o (by simpa using h)
      rwa [show i+1+j=i+(j+1) by omega] at this
theorem writersOk_spec {ms:List Nat} {m t:Nat}:∀ {os:List Oper} {i:Nat},writersOk ms m t i os=true → ∀ j o,os[j]? = some o→o.dst=some t→Nat.testBit (ms.getD m 0) (i+j)=true∨Nat.testBit (ms.getD (i+j) 0) m=true
  | [],i,_,j,o,h,_=>by simp at h
  | o' :: os,i,hk,j,o,h,hd=>by
    simp only [writersOk,Bool.and_eq_true] at hk
    cases j with
    | zero=>
      simp only [List.getElem?_cons_zero,Option.some.injEq] at h
      subst h
      have:=hk.1
      rw [hd] at this
      simpa using this
    | succ j=>
      have:=writersOk_spec hk.2 j o (by simpa using h) hd
      rwa [show i+1+j=i+(j+1) by omega] at this
theorem chainedF_spec {ms:List Nat} {i:Nat} {p:Nat→Bool}:∀ {os:List Oper} {k:Nat},chainedF ms i p k os=true → ∀ j o,os[j]? = some o→p (k+j)=true→k+j=i∨Nat.testBit (ms.getD i 0) (k+j)=true∨Nat.testBit (ms.getD (k+j) 0) i=true
  | [],k,_,j,o,h,_=>by simp at h
  | o' :: os,k,hk,j,o,h,hw=>by
    simp only [chainedF,Bool.and_eq_true] at hk
    cases j with
    | zero=>
      have:=hk.1
      rw [Nat.add_zero] at hw
      rw [hw] at this
      simpa [Nat.beq_eq] using this
    | succ j=>
      have:=chainedF_spec hk.2 j o (by simpa using h) (by rw [show k+1+j=k+(j+1) by omega];exact hw)
      rwa [show k+1+j=k+(j+1) by omega] at this
theorem distinctD_spec:∀ {os:List Oper},distinctD os=true → ∀ (i j:Nat) (o o':Oper) (d:Nat),i<j→os[i]? = some o→os[j]? = some o' → o.dst=some d→o'.dst≠some d
  | [],_,i,j,o,o',d,_,h,_,_=>by simp at h
  | o1 :: os,hk,i,j,o,o',d,hij,h,h',hd=>by
    simp only [distinctD,Bool.and_eq_true] at hk
    cases j with
    | zero=>omega
    | succ j=>
      cases i with
      | zero=>
        simp only [List.getElem?_cons_zero,Option.some.injEq] at h
        subst h
        have:=hk.1
        rw [hd] at this
        simp only [List.all_eq_true] at this
        have h2:=this o' (List.mem_of_getElem? (by simpa using h'))
        intro he
        rw [he] at h2
        simp at h2
      | succ i=>exact distinctD_spec hk.2 i j o o' d (by omega) (by simpa using h) (by simpa using h') hd
theorem dirM_spec {ms:List Nat}:∀ {es:List Edge} {j:Nat},Nat.testBit (dirM ms es) j=true → ∃ e ∈ es,Region.binds .any e=true∧(e.on=j∨Nat.testBit (ms.getD e.on 0) j=true)
  | [],j,h=>by simp [dirM] at h
  | e :: es,j,h=>by
    simp only [dirM] at h
    cases hb:Region.binds .any e with
    | false=>
      rw [hb] at h
      obtain ⟨e',h1,h2⟩:=dirM_spec (es:=es) h
      exact ⟨e',List.mem_cons_of_mem _ h1,h2⟩
    | true=>
      rw [hb] at h
      simp only [cond_true,Nat.testBit_or,Bool.or_eq_true] at h
      rcases h with (h|h)|h
      · refine ⟨e,List.mem_cons_self,hb,.inl ?_⟩
        rw [Nat.testBit_two_pow] at h
        simpa using h
      · exact ⟨e,List.mem_cons_self,hb,.inr h⟩
      · obtain ⟨e',h1,h2⟩:=dirM_spec (es:=es) h
        exact ⟨e',List.mem_cons_of_mem _ h1,h2⟩
structure Stp where
  v:V
  H:List (Nat×Option Blk)
def putE (d:Option Tmp) (v:V) (env:List (Nat×V)):List (Nat×V):=
  match d with
  | some d=>(d,v) :: env
  | none=>env
def inH:List (Nat×Option Blk)→Nat→Bool
  | [],_=>false
  | (t,_) :: r,id=>Nat.beq t id || inH r id
theorem getH_appc {H h:List (Nat×Option Blk)} {id:Nat}:getH (H++h) id=cond (inH H id) (getH H id) (getH h id):=by
  induction H with
  | nil=>rfl
  | cons x r ih=>
    obtain ⟨t,B⟩:=x
    show cond (Nat.beq t id) B (getH (r++h) id)=cond (Nat.beq t id || inH r id) (cond (Nat.beq t id) B (getH r id)) (getH h id)
    rw [ih]
    cases Nat.beq t id <;> rfl
theorem getH_app {H h:List (Nat×Option Blk)} {id:Nat}:getH (H++h) id=if inH H id=true then getH H id else getH h id:=by
  rw [getH_appc]
  generalize inH H id=b
  cases b <;> rfl
def envU:List (Oper×Stp)→Nat→(Nat→Bool)→List (Nat×V)→List (Nat×V)
  | [],_,_,e=>e
  | (o,s) :: r,i,p,e=>envU r (i+1) p (if p i=true then putE o.dst s.v e else e)
def heapU:List (Oper×Stp)→Nat→(Nat→Bool)→List (Nat×Option Blk)→List (Nat×Option Blk)
  | [],_,_,h=>h
  | (o,s) :: r,i,p,h=>heapU r (i+1) p (if p i=true then s.H++h else h)
theorem getE_put {d:Option Tmp} {v:V} {e:List (Nat×V)} {t:Nat}:getE (putE d v e) t=if d=some t then some v else getE e t:=by
  cases d with
  | none=>simp [putE]
  | some d=>
    simp only [putE,getE,Option.some.injEq]
    by_cases h:d=t
    · subst h;simp
    · rw [if_neg h]
      have hb:Nat.beq d t=false:=by
        cases hb:Nat.beq d t
        · rfl
        · exact absurd (Nat.eq_of_beq_eq_true hb) h
      rw [hb];rfl
theorem envU_congr {t:Nat}:∀ {z:List (Oper×Stp)} {i:Nat} {p q:Nat→Bool} {e1 e2:List (Nat×V)},(∀ j o s,z[j]? = some (o,s)→o.dst=some t→p (i+j)=q (i+j))→getE e1 t=getE e2 t→getE (envU z i p e1) t=getE (envU z i q e2) t
  | [],i,p,q,e1,e2,_,h=>h
  | (o,s) :: r,i,p,q,e1,e2,hp,h=>by
    simp only [envU]
    refine envU_congr (fun j o' s' hj hd=>?_) ?_
    · have:=hp (j+1) o' s' (by simpa using hj) hd
      rwa [show i+(j+1)=i+1+j by omega] at this
    · by_cases hd:o.dst=some t
      · have:=hp 0 o s (by simp) hd
        simp only [Nat.add_zero] at this
        rw [this]
        split
        · rw [getE_put,getE_put,if_pos hd,if_pos hd]
        · exact h
      · have e:∀ (b:Bool) (e:List (Nat×V)),getE (if b=true then putE o.dst s.v e else e) t=getE e t:=fun b e=>by
          cases b
          · rfl
          · simp only [if_true];rw [getE_put,if_neg hd]
        rw [e,e];exact h
theorem heapU_congr {id:Nat}:∀ {z:List (Oper×Stp)} {i:Nat} {p q:Nat→Bool} {e1 e2:List (Nat×Option Blk)},(∀ j o s,z[j]? = some (o,s)→inH s.H id=true→p (i+j)=q (i+j))→getH e1 id=getH e2 id→getH (heapU z i p e1) id=getH (heapU z i q e2) id
  | [],i,p,q,e1,e2,_,h=>h
  | (o,s) :: r,i,p,q,e1,e2,hp,h=>by
    simp only [heapU]
    refine heapU_congr (fun j o' s' hj hd=>?_) ?_
    · have:=hp (j+1) o' s' (by simpa using hj) hd
      rwa [show i+(j+1)=i+1+j by omega] at this
    · by_cases hd:inH s.H id=true
      · have:=hp 0 o s (by simp) hd
        simp only [Nat.add_zero] at this
        rw [this]
        split
        · rw [getH_app,getH_app,if_pos hd,if_pos hd]
        · exact h
      · have e:∀ (b:Bool) (e:List (Nat×Option Blk)),getH (if b=true then s.H++e else e) id=getH e id:=fun b e=>by
          cases b
          · rfl
          · simp only [if_true];rw [getH_app,if_neg hd]
        rw [e,e];exact h
theorem envU_add {t k:Nat} {ok:Oper} {sk:Stp}:∀ {z:List (Oper×Stp)} {i:Nat} {p q:Nat→Bool} {e:List (Nat×V)},z[k]? = some (ok,sk)→(∀ j,j≠i+k→q j=p j)→q (i+k)=true→p (i+k)=false →
    (∀ j o s,z[j]? = some (o,s)→k<j→ok.dst=some t→o.dst≠some t)→getE (envU z i q e) t=getE (putE ok.dst sk.v (envU z i p e)) t
  | [],i,p,q,e,hz,_,_,_,_=>by simp at hz
  | (o,s) :: r,i,p,q,e,hz,hq,hqk,hpk,hd=>by
    simp only [envU]
    cases k with
    | zero=>
      simp only [List.getElem?_cons_zero,Option.some.injEq,Prod.mk.injEq] at hz
      obtain ⟨rfl,rfl⟩:=hz
      simp only [Nat.add_zero] at hqk hpk
      rw [hqk,hpk]
      simp only [if_true,Bool.false_eq_true,if_false]
      rw [getE_put]
      by_cases ht:o.dst=some t
      · rw [if_pos ht]
        have h1:getE (envU r (i+1) q (putE o.dst s.v e)) t=getE (envU r (i+1) (fun _=>false) (putE o.dst s.v e)) t:=envU_congr (fun j o' s' hj hd'=>absurd hd' (hd (j+1) o' s' (by simpa using hj) (by omega) ht)) rfl
        have h2:∀ (z:List (Oper×Stp)) (i:Nat) (e:List (Nat×V)),envU z i (fun _=>false) e=e:=by
          intro z
          induction z with
          | nil=>intro i e;rfl
          | cons x r ih=>intro i e;obtain ⟨o,s⟩:=x;simp only [envU];exact ih _ _
        rw [h1,h2,getE_put,if_pos ht]
      · rw [if_neg ht]
        exact envU_congr (fun j o' s' hj hd'=>hq _ (by omega)) (by rw [getE_put,if_neg ht])
    | succ k=>
      rw [show i+(k+1)=i+1+k by omega] at hq hqk hpk
      rw [hq i (by omega)]
      exact envU_add (by simpa using hz) hq hqk hpk (fun j o' s' hj hkj=>hd (j+1) o' s' (by simpa using hj) (by omega))
theorem heapU_false:∀ (z:List (Oper×Stp)) (i:Nat) (p:Nat→Bool) (e:List (Nat×Option Blk)),(∀ j,p (i+j)=false)→heapU z i p e=e
  | [],i,p,e,_=>rfl
  | (o,s) :: r,i,p,e,h=>by
    simp only [heapU]
    have h0:=h 0
    simp only [Nat.add_zero] at h0
    rw [h0]
    simp only [Bool.false_eq_true,if_false]
    exact heapU_false r (i+1) p e (fun j=>by have:=h (j+1);rwa [show i+(j+1)=i+1+j by omega] at this)
theorem envU_false:∀ (z:List (Oper×Stp)) (i:Nat) (p:Nat→Bool) (e:List (Nat×V)),(∀ j,p (i+j)=false)→envU z i p e=e
  | [],i,p,e,_=>rfl
  | (o,s) :: r,i,p,e,h=>by
    simp only [envU]
    have h0:=h 0
    simp only [Nat.add_zero] at h0
    rw [h0]
    simp only [Bool.false_eq_true,if_false]
    exact envU_false r (i+1) p e (fun j=>by have:=h (j+1);rwa [show i+(j+1)=i+1+j by omega] at this)
theorem heapU_add {id k:Nat} {ok:Oper} {sk:Stp}:∀ {z:List (Oper×Stp)} {i:Nat} {p q:Nat→Bool} {e:List (Nat×Option Blk)},z[k]? = some (ok,sk)→(∀ j,j≠i+k→q j=p j)→q (i+k)=true→p (i+k)=false →
    (∀ j o s,z[j]? = some (o,s)→k<j→inH sk.H id=true→inH s.H id=true→p (i+j)=false)→getH (heapU z i q e) id=getH (sk.H++heapU z i p e) id
  | [],i,p,q,e,hz,_,_,_,_=>by simp at hz
  | (o,s) :: r,i,p,q,e,hz,hq,hqk,hpk,hd=>by
    simp only [heapU]
    cases k with
    | zero=>
      simp only [List.getElem?_cons_zero,Option.some.injEq,Prod.mk.injEq] at hz
      obtain ⟨rfl,rfl⟩:=hz
      simp only [Nat.add_zero] at hqk hpk
      rw [hqk,hpk]
      simp only [if_true,Bool.false_eq_true,if_false]
      rw [getH_app]
      by_cases ht:inH s.H id=true
      · rw [if_pos ht]
        have h1:getH (heapU r (i+1) q (s.H++e)) id=getH (heapU r (i+1) (fun _=>false) (s.H++e)) id:=heapU_congr (fun j o' s' hj hd'=>by
          rw [hq _ (by omega)]
          have:=hd (j+1) o' s' (by simpa using hj) (by omega) ht hd'
          rwa [show i+(j+1)=i+1+j by omega] at this) rfl
        rw [h1,heapU_false _ _ _ _ (fun _=>rfl),getH_app,if_pos ht]
      · rw [if_neg ht]
        exact heapU_congr (fun j o' s' hj hd'=>hq _ (by omega)) (by rw [getH_app,if_neg ht])
    | succ k=>
      rw [show i+(k+1)=i+1+k by omega] at hq hqk hpk
      rw [hq i (by omega)]
      exact heapU_add (by simpa using hz) hq hqk hpk (fun j o' s' hj hkj h1 h2=>by
        have:=hd (j+1) o' s' (by simpa using hj) (by omega) h1 h2
        rwa [show i+(j+1)=i+1+j by omega] at this)
section
variable {P:Program} {N nt b0:Nat} {ops:List Oper} {W:Nat→Nat→Bool}
def stepWp (P:Program) (ops:Array Oper) (o:Oper) (K:Act→World→Prop) (a:Act) (w:World):Prop:=
  if Region.wanted o (yielded ops a.tmps)=true then o.wp P a w K (fun _ _ _=>False) else K (a.put o.dst undef) w
def Fam (P:Program) (N nt kk:Nat) (ops:List Oper) (o:Oper) (E:List (Nat×V)) (Hn:List (Nat×Option Blk)) (s:Stp):Prop:=
  ∀ env heap,(∀ t x,getE E t=some x→getE env t=some x)→(∀ id B,getH Hn id=some B→getH heap id=some B) →
    ∀ F M w0 ρ a w,HRel F M ρ heap N w0 w→ERel ρ (Stab F ρ heap) w nt env a→ρ kk=none →
      stepWp P ops.toArray o (fun a' w'=>∃ ρ',HRel F M ρ' (s.H++heap) N w0 w' ∧ ERel ρ' (Stab F ρ' (s.H++heap)) w' nt (putE o.dst s.v env) a' ∧ (∀ id,id<N→id≠kk→ρ' id=ρ id)) a w
def StepOK (P:Program) (N nt b0:Nat) (ops:List Oper) (W:Nat→Nat→Bool) (i:Nat) (o:Oper) (env:List (Nat×V)) (heap:List (Nat×Option Blk)) (s:Stp):Prop:=
  ∃ E Hn,(∀ t x,getE E t=some x→t ∈ looks ops o∧getE env t=some x)∧(∀ id B,getH Hn id=some B→vis ops W b0 i id=true∧getH heap id=some B) ∧
    (∀ id,inH s.H id=true→id=b0+i∨(W i id=true∧isWc o.op=true∧vis ops W b0 i id=true))∧Fam P N nt (b0+i) ops o E Hn s
inductive Plan (P:Program) (N nt b0:Nat) (ops:List Oper) (W:Nat→Nat→Bool):Nat→List Oper→List (Nat×V)→List (Nat×Option Blk)→List Stp→List (Nat×V)→List (Nat×Option Blk)→Prop
  | nil (i:Nat) (env:List (Nat×V)) (heap:List (Nat×Option Blk)):Plan P N nt b0 ops W i [] env heap [] env heap
  | cons {i:Nat} {o:Oper} {rest:List Oper} {env:List (Nat×V)} {heap:List (Nat×Option Blk)} {s:Stp} {ss:List Stp} {eF:List (Nat×V)} {hF:List (Nat×Option Blk)}
      (h:StepOK P N nt b0 ops W i o env heap s) (hr:Plan P N nt b0 ops W (i+1) rest (putE o.dst s.v env) (s.H++heap) ss eF hF):Plan P N nt b0 ops W i (o :: rest) env heap (s :: ss) eF hF
theorem blt_t {m n:Nat} (h:m<n):Nat.blt m n=true:=Nat.ble_eq_true_of_le h
theorem blt_f {m n:Nat} (h:n≤m):Nat.blt m n=false:=by
  cases hb:Nat.blt m n with
  | false=>rfl
  | true=>have:=Nat.le_of_ble_eq_true hb;omega
theorem Plan.len {i:Nat} {rest:List Oper} {env:List (Nat×V)} {heap:List (Nat×Option Blk)} {ss:List Stp} {eF:List (Nat×V)} {hF:List (Nat×Option Blk)} (h:Plan P N nt b0 ops W i rest env heap ss eF hF):ss.length=rest.length:=by
  induction h with
  | nil=>rfl
  | cons h hr ih=>simp [ih]
theorem Plan.get {i:Nat} {rest:List Oper} {env:List (Nat×V)} {heap:List (Nat×Option Blk)} {ss:List Stp} {eF:List (Nat×V)} {hF:List (Nat×Option Blk)} (h:Plan P N nt b0 ops W i rest env heap ss eF hF) :
    ∀ j o s,(rest.zip ss)[j]? = some (o,s)→StepOK P N nt b0 ops W (i+j) o (envU (rest.zip ss) i (fun x=>Nat.blt x (i+j)) env) (heapU (rest.zip ss) i (fun x=>Nat.blt x (i+j)) heap) s:=by
  induction h with
  | nil=>intro j o s h;simp at h
  | @cons i o rest env heap s ss eF hF h hr ih=>
    intro j o' s' hj
    cases j with
    | zero=>
      simp only [List.zip_cons_cons,List.getElem?_cons_zero,Option.some.injEq,Prod.mk.injEq] at hj
      obtain ⟨rfl,rfl⟩:=hj
      rw [envU_false _ _ (fun x=>Nat.blt x (i+0)) _ (fun j=>blt_f (by omega)),heapU_false _ _ (fun x=>Nat.blt x (i+0)) _ (fun j=>blt_f (by omega))]
      exact h
    | succ j=>
      have:=ih j o' s' (by simpa using hj)
      rw [show i+1+j=i+(j+1) by omega] at this
      simp only [List.zip_cons_cons,envU,heapU]
      rw [if_pos (blt_t (by omega)),if_pos (blt_t (by omega))]
      exact this
theorem Plan.fin {i:Nat} {rest:List Oper} {env:List (Nat×V)} {heap:List (Nat×Option Blk)} {ss:List Stp} {eF:List (Nat×V)} {hF:List (Nat×Option Blk)} (h:Plan P N nt b0 ops W i rest env heap ss eF hF) :
    eF=envU (rest.zip ss) i (fun x=>Nat.blt x (i+rest.length)) env∧hF=heapU (rest.zip ss) i (fun x=>Nat.blt x (i+rest.length)) heap:=by
  induction h with
  | nil=>exact ⟨rfl,rfl⟩
  | @cons i o rest env heap s ss eF hF h hr ih=>
    simp only [List.zip_cons_cons,envU,heapU,List.length_cons]
    rw [if_pos (blt_t (by omega)),if_pos (blt_t (by omega))]
    rw [show i+(rest.length+1)=i+1+rest.length by omega]
    exact ih
theorem HRel.same {F:Nat→Prop} {M:Nat→Prop} {ρ:Nat→Option Value} {heap heap':List (Nat×Option Blk)} {next:Nat} {w0 w:World} (h:HRel F M ρ heap next w0 w) (he:∀ id,getH heap' id=getH heap id):HRel F M ρ heap' next w0 w ∧ ∀ b,Stab F ρ heap b ↔ Stab F ρ heap' b:=by
  have hs:∀ b,Stab F ρ heap b ↔ Stab F ρ heap' b:=fun b=>⟨fun h=>⟨h.1,fun id B u hB=>h.2 id B u (by rw [← he];exact hB)⟩,fun h=>⟨h.1,fun id B u hB=>h.2 id B u (by rw [he];exact hB)⟩⟩
  refine ⟨⟨⟨h.below,h.hbase,h.sup,fun id id' B B' u u' b hB hB'=>h.inj id id' B B' u u' b (by rw [← he];exact hB) (by rw [← he];exact hB'),fun id B hB=>?_⟩,h.hF⟩,hs⟩
  exact (h.blk id B (by rw [← he];exact hB)).mono (Same.refl _ _) (fun b h _=>(hs b).1 h) (fun _ _ h=>h) (fun _ _ _ _ _ _=>rfl)
theorem wpOp_of {i:Nat} {o:Oper} {Q:Exit→Act→World→Prop} {K:Act→World→Prop} {a:Act} {w:World} {ops:Array Oper} (hi:ops[i]? = some o) (h:stepWp P ops o K a w):wpOp P ops Q i K a w:=by
  unfold wpOp
  simp only [hi]
  unfold stepWp at h
  split
  · rename_i hw
    rw [if_pos hw] at h
    exact .inl (upon_mono (fun _ _ h=>h) (fun _ _ _ h=>h.elim) h)
  · rename_i hw
    rw [if_neg hw] at h
    exact h
theorem stepWp_mono {ops:Array Oper} {o:Oper} {K K':Act→World→Prop} {a:Act} {w:World} (h:∀ a w,K a w→K' a w) (hh:stepWp P ops o K a w):stepWp P ops o K' a w:=by
  unfold stepWp at *
  split
  · rename_i hw
    rw [if_pos hw] at hh
    exact upon_mono0 h hh
  · rename_i hw
    rw [if_neg hw] at hh
    exact h _ _ hh
theorem plan_sound {n0:Nat} {env0:List (Nat×V)} {heap0:List (Nat×Option Blk)} {ss:List Stp} {eF:List (Nat×V)} {hF:List (Nat×Option Blk)} (hok:okText ops=true) (hp:Plan P (b0+ops.length) nt b0 ops W 0 ops env0 heap0 ss eF hF) (hn0:n0≤b0)
    {F:Nat→Prop} {M:Nat→Prop} {w0:World} {ρ0:Nat→Option Value}:∀ (fuel:Nat) (us:List Nat) (listed:Array Bool) (a:Act) (w:World) (ρ:Nat→Option Value),us.length=fuel→us.Nodup→(∀ i,i ∈ us ↔ (i<ops.length∧listed.getD i false=false))→listed.size=ops.length →
      (∀ i j,listed.getD i false=true→Nat.testBit ((masks ops).getD i 0) j=true→listed.getD j false=true) →
      HRel F M ρ (heapU (ops.zip ss) 0 (fun i=>listed.getD i false) heap0) (b0+ops.length) w0 w→ERel ρ (Stab F ρ (heapU (ops.zip ss) 0 (fun i=>listed.getD i false) heap0)) w nt (envU (ops.zip ss) 0 (fun i=>listed.getD i false) env0) a →
      (∀ id,id<n0→ρ id=ρ0 id)→(∀ i,i<ops.length→listed.getD i false=false→ρ (b0+i)=none) →
      wpAny P .any ops.toArray (Post n0 F M w0 ρ0 (NQ fun st=>st=⟨eF,hF,b0+ops.length,nt⟩)) fuel listed a w:=by
  simp only [okText,Bool.and_eq_true] at hok
  obtain ⟨hdist,hok⟩:=hok
  have hlen:=hp.len
  have hget:=hp.get
  obtain ⟨hfe,hfh⟩:=hp.fin
  have hz:∀ i o,ops[i]? = some o → ∃ s,(ops.zip ss)[i]? = some (o,s):=fun i o h=>by
    have hlt:=(List.getElem?_eq_some_iff.1 h).1
    refine ⟨ss[i]'(by omega),?_⟩
    rw [List.getElem?_zip_eq_some]
    exact ⟨h,List.getElem?_eq_getElem _⟩
  have hz2:∀ j o s,(ops.zip ss)[j]? = some (o,s)→ops[j]? = some o:=fun j o s h=>(List.getElem?_zip_eq_some.1 h).1
  have hmlt:∀ n i,i<n → ∀ o,ops[i]? = some o → ∀ j,Nat.testBit ((masks ops).getD i 0) j=true→j<i:=by
    intro n
    induction n with
    | zero=>intro i h;omega
    | succ n ihn=>
      intro i hin o ho j hj
      obtain ⟨q1,q2,q3⟩:=okFrom_spec hok i o ho
      rw [Nat.zero_add] at q1 q2
      rw [q1] at hj
      obtain ⟨e,he,hb,hcase⟩:=dirM_spec hj
      have:=q2 e he hb
      rcases hcase with rfl|hcase
      · exact this
      · have hlo:=(List.getElem?_eq_some_iff.1 ho).1
        have:=ihn e.on (by omega) ops[e.on] (List.getElem?_eq_getElem (by omega)) j hcase
        omega
  have hdone:∀ (us:List Nat) (listed:Array Bool) (a:Act) (w:World) (ρ:Nat→Option Value),(∀ i,i ∈ us ↔ (i<ops.length∧listed.getD i false=false))→us=[] →
      HRel F M ρ (heapU (ops.zip ss) 0 (fun i=>listed.getD i false) heap0) (b0+ops.length) w0 w→ERel ρ (Stab F ρ (heapU (ops.zip ss) 0 (fun i=>listed.getD i false) heap0)) w nt (envU (ops.zip ss) 0 (fun i=>listed.getD i false) env0) a →
      (∀ id,id<n0→ρ id=ρ0 id)→Post n0 F M w0 ρ0 (NQ fun st=>st=⟨eF,hF,b0+ops.length,nt⟩) .normal a w:=by
    intro us listed a w ρ hus hnil hH hE hρ
    have hall:∀ i,i<ops.length→listed.getD i false=true:=fun i hi=>by
      cases hb:listed.getD i false with
      | true=>rfl
      | false=>
        have:=(hus i).2 ⟨hi,hb⟩
        rw [hnil] at this;cases this
    have e1:∀ t,getE eF t=getE (envU (ops.zip ss) 0 (fun i=>listed.getD i false) env0) t:=fun t=>by
      rw [hfe]
      refine envU_congr (fun j o s hj _=>?_) rfl
      have hlt:=(List.getElem?_eq_some_iff.1 (hz2 _ _ _ hj)).1
      rw [Nat.zero_add,Nat.zero_add,hall j hlt,blt_t hlt]
    have e2:∀ id,getH hF id=getH (heapU (ops.zip ss) 0 (fun i=>listed.getD i false) heap0) id:=fun id=>by
      rw [hfh]
      refine heapU_congr (fun j o s hj _=>?_) rfl
      have hlt:=(List.getElem?_eq_some_iff.1 (hz2 _ _ _ hj)).1
      rw [Nat.zero_add,Nat.zero_add,hall j hlt,blt_t hlt]
    obtain ⟨g1,g2⟩:=hH.same e2
    exact ⟨ρ,_,⟨rfl,rfl⟩,g1,⟨hE.size,hE.defers,fun t v hv=>by rw [e1] at hv;exact (hE.slot t v hv).mono (Same.refl _ _) (fun b h _=>(g2 b).1 h) (fun _ _ h=>h)⟩,hρ⟩
  intro fuel
  induction fuel with
  | zero=>
    intro us listed a w ρ hlu hnd hus hsz hdc hH hE hρ hfr
    have hnil:us=[]:=List.eq_nil_of_length_eq_zero hlu
    refine ⟨?_,hdone us listed a w ρ hus hnil hH hE hρ⟩
    cases hr:Region.ready .any ops.toArray listed with
    | nil=>rfl
    | cons i r=>
      exfalso
      have hm:i ∈ Region.ready .any ops.toArray listed:=by rw [hr];exact List.mem_cons_self
      rw [mem_ready] at hm
      obtain ⟨h1,o,h2,_⟩:=hm
      have hlt:i<ops.length:=(List.getElem?_eq_some_iff.1 (by simpa using h2)).1
      have:i ∈ us:=(hus i).2 ⟨hlt,by rw [Array.getD_eq_getD_getElem?] at h1 ⊢;rw [Array.getElem?_eq_getElem (by omega)] at h1 ⊢;exact h1⟩
      rw [hnil] at this;cases this
  | succ fuel ih=>
    intro us listed a w ρ hlu hnd hus hsz hdc hH hE hρ hfr
    have hgd:∀ i,i<ops.length→listed.getD i true=listed.getD i false:=fun i hi=>by
      rw [Array.getD_eq_getD_getElem?,Array.getD_eq_getD_getElem?,Array.getElem?_eq_getElem (by omega)];rfl
    refine ⟨fun hr=>?_,fun i hi=>?_⟩
    ·
      have hall:∀ n i,i<n→i<ops.length→listed.getD i false=true:=by
        intro n
        induction n with
        | zero=>intro i h;omega
        | succ n ihn=>
          intro i hin hil
          cases hb:listed.getD i false with
          | true=>rfl
          | false=>
            exfalso
            have:i ∈ Region.ready .any ops.toArray listed:=by
              rw [mem_ready]
              refine ⟨by rw [hgd i hil];exact hb,ops[i],by simp [hil],fun e he hbd=>?_⟩
              have:=(okFrom_spec hok i ops[i] (List.getElem?_eq_getElem hil)).2.1 e (by simpa using he) hbd
              exact ihn e.on (by omega) (by omega)
            rw [hr] at this;cases this
      have hnil:us=[]:=List.eq_nil_iff_forall_not_mem.2 (fun i hi=>by
        have:=(hus i).1 hi
        rw [hall (i+1) i (by omega) this.1] at this
        exact Bool.noConfusion this.2)
      exact hdone us listed a w ρ hus hnil hH hE hρ
    · rw [mem_ready] at hi
      obtain ⟨h1,o,h2,h3⟩:=hi
      have h2:ops[i]? = some o:=by simpa using h2
      have hlt:i<ops.length:=(List.getElem?_eq_some_iff.1 h2).1
      rw [hgd i hlt] at h1
      obtain ⟨s,hs⟩:=hz i o h2
      obtain ⟨E,Hn,g1,g2,g3,g4⟩:=hget i o s hs
      rw [Nat.zero_add] at g1 g2 g3 g4
      obtain ⟨o1,o2,o3⟩:=okFrom_spec hok i o h2
      rw [Nat.zero_add] at o1 o2 o3
      have hmask:∀ j,Nat.testBit ((masks ops).getD i 0) j=true→listed.getD j false=true∧j<i:=by
        have hall:∀ n i,i<n → ∀ o,ops[i]? = some o → ∀ j,Nat.testBit ((masks ops).getD i 0) j=true→j<i:=by
          intro n
          induction n with
          | zero=>intro i h;omega
          | succ n ihn=>
            intro i hin o ho j hj
            obtain ⟨q1,q2,q3⟩:=okFrom_spec hok i o ho
            rw [Nat.zero_add] at q1 q2
            rw [q1] at hj
            obtain ⟨e,he,hb,hcase⟩:=dirM_spec hj
            have:=q2 e he hb
            rcases hcase with rfl|hcase
            · exact this
            · have hlo:=(List.getElem?_eq_some_iff.1 ho).1
              have:=ihn e.on (by omega) ops[e.on] (List.getElem?_eq_getElem (by omega)) j hcase
              omega
        intro j hj
        refine ⟨?_,hall (i+1) i (by omega) o h2 j hj⟩
        rw [o1] at hj
        obtain ⟨e,he,hb,hcase⟩:=dirM_spec hj
        have:=h3 e (by simpa using he) hb
        rcases hcase with rfl|hcase
        · exact this
        · exact hdc _ _ this hcase
      refine wpOp_of (by simpa using h2) ?_
      have hvis:∀ id,vis ops W b0 i id=true → ∀ j o' s',(ops.zip ss)[j]? = some (o',s')→inH s'.H id=true→Nat.blt j i=listed.getD j false∧(j=i∨Nat.blt j i=true∨listed.getD j false=false):=by
        intro id hv j o' s' hj hin
        obtain ⟨E',Hn',_,_,k3,_⟩:=hget j o' s' hj
        rw [Nat.zero_add] at k3
        simp only [vis,Bool.and_eq_true,Bool.or_eq_true,Bool.not_eq_true'] at hv
        obtain ⟨v1,v2⟩:=hv
        by_cases hji:j=i
        · subst hji
          exact ⟨by rw [h1];exact blt_f (Nat.le_refl _),.inl rfl⟩
        rcases k3 id hin with rfl | ⟨w1,w2,w3⟩
        · rcases v2 with v2|v2
          · have:=Nat.le_of_ble_eq_true v2
            omega
          · rw [Nat.add_sub_cancel_left] at v2
            obtain ⟨m1,m2⟩:=hmask j v2
            exact ⟨by rw [m1,blt_t m2],.inr (.inl (blt_t m2))⟩
        · rcases chainedF_spec v1 j o' (hz2 _ _ _ hj) (by rw [Nat.zero_add];exact w1) with c1|c1|c1
          · exact absurd (by omega) hji
          · rw [Nat.zero_add] at c1
            obtain ⟨m1,m2⟩:=hmask j c1
            exact ⟨by rw [m1,blt_t m2],.inr (.inl (blt_t m2))⟩
          · rw [Nat.zero_add] at c1
            have hjl:=(List.getElem?_eq_some_iff.1 (hz2 _ _ _ hj)).1
            have hnl:listed.getD j false=false:=by
              cases hb:listed.getD j false with
              | false=>rfl
              | true=>rw [hdc j i hb c1] at h1;cases h1
            have hji2:¬ j<i:=by
              intro hlt2
              have hall:∀ n i,i<n → ∀ o,ops[i]? = some o → ∀ j,Nat.testBit ((masks ops).getD i 0) j=true→j<i:=by
                intro n
                induction n with
                | zero=>intro i h;omega
                | succ n ihn=>
                  intro i hin o ho j hj
                  obtain ⟨q1,q2,q3⟩:=okFrom_spec hok i o ho
                  rw [Nat.zero_add] at q1 q2
                  rw [q1] at hj
                  obtain ⟨e,he,hb,hcase⟩:=dirM_spec hj
                  have:=q2 e he hb
                  rcases hcase with rfl|hcase
                  · exact this
                  · have hlo:=(List.getElem?_eq_some_iff.1 ho).1
                    have:=ihn e.on (by omega) ops[e.on] (List.getElem?_eq_getElem (by omega)) j hcase
                    omega
              have:=hall (j+1) j (by omega) o' (hz2 _ _ _ hj) i c1
              omega
            exact ⟨by rw [hnl];exact blt_f (by omega),.inr (.inr hnl)⟩
      have hEc:∀ t x,getE E t=some x→getE (envU (ops.zip ss) 0 (fun i=>listed.getD i false) env0) t=some x:=by
        intro t x ht
        obtain ⟨k1,k2⟩:=g1 t x ht
        rw [← k2]
        refine envU_congr (fun j o' s' hj hd=>?_) rfl
        have:=writersOk_spec (o3 t k1) j o' (hz2 _ _ _ hj) hd
        rw [Nat.zero_add] at this ⊢
        rcases this with this|this
        · obtain ⟨m1,m2⟩:=hmask j this
          simp [m1,m2]
        · have hlt2:=hmlt (j+1) j (by omega) o' (hz2 _ _ _ hj) i this
          have hnl:listed.getD j false=false:=by
            cases hb:listed.getD j false with
            | false=>rfl
            | true=>rw [hdc j i hb this] at h1;cases h1
          rw [hnl]
          first|exact blt_f (by omega)|exact (blt_f (by omega)).symm
      have hHc:∀ id B,getH Hn id=some B→getH (heapU (ops.zip ss) 0 (fun i=>listed.getD i false) heap0) id=some B:=by
        intro id B hB
        obtain ⟨k1,k2⟩:=g2 id B hB
        rw [← k2]
        refine heapU_congr (fun j o' s' hj hd=>?_) rfl
        rw [Nat.zero_add]
        exact (hvis id k1 j o' s' hj hd).1.symm
      refine stepWp_mono ?_ (g4 _ _ hEc hHc F M w0 ρ a w hH hE (hfr i hlt h1))
      rintro a' w' ⟨ρ',q1,q2,q3⟩
      have hset:∀ j,(listed.setIfInBounds i true).getD j false=if j=i then true else listed.getD j false:=fun j=>by
        by_cases hji:j=i
        · subst hji
          rw [if_pos rfl,Array.getD_eq_getD_getElem?,Array.getElem?_setIfInBounds_self_of_lt (by omega)];rfl
        · rw [if_neg hji,getD_set_ne false (Ne.symm hji)]
      have eE:∀ t,getE (envU (ops.zip ss) 0 (fun j=>(listed.setIfInBounds i true).getD j false) env0) t=getE (putE o.dst s.v (envU (ops.zip ss) 0 (fun j=>listed.getD j false) env0)) t:=fun t=>
        envU_add hs (fun j hj=>by rw [Nat.zero_add] at hj;rw [hset,if_neg hj]) (by rw [Nat.zero_add,hset,if_pos rfl]) (by rw [Nat.zero_add];exact h1) (fun j o' s' hj hkj hd=>distinctD_spec hdist i j o o' t hkj h2 (hz2 _ _ _ hj) hd)
      have eH:∀ id,getH (heapU (ops.zip ss) 0 (fun j=>(listed.setIfInBounds i true).getD j false) heap0) id=getH (s.H++heapU (ops.zip ss) 0 (fun j=>listed.getD j false) heap0) id:=fun id=>
        heapU_add hs (fun j hj=>by rw [Nat.zero_add] at hj;rw [hset,if_neg hj]) (by rw [Nat.zero_add,hset,if_pos rfl]) (by rw [Nat.zero_add];exact h1) (fun j o' s' hj hkj hin hin'=>by
          rw [Nat.zero_add]
          rcases g3 id hin with rfl | ⟨w1,w2,w3⟩
          ·
            cases hb:listed.getD j false with
            | false=>rfl
            | true=>
              exfalso
              obtain ⟨E',Hn',_,_,k3,_⟩:=hget j o' s' hj
              rw [Nat.zero_add] at k3
              rcases k3 _ hin' with e | ⟨x1,x2,x3⟩
              · omega
              · simp only [vis,Bool.and_eq_true,Bool.or_eq_true] at x3
                rcases x3.2 with x3|x3
                · have:=Nat.le_of_ble_eq_true x3;omega
                · rw [Nat.add_sub_cancel_left] at x3
                  rw [hdc j i hb x3] at h1;cases h1
          · rcases (hvis id w3 j o' s' hj hin').2 with e|e|e
            · omega
            · have:=Nat.le_of_ble_eq_true e;omega
            · exact e)
      obtain ⟨r1,r2⟩:=q1.same eH
      refine ih (us.erase i) (listed.setIfInBounds i true) a' w' ρ' ?_ (hnd.erase i) (fun j=>?_) (by simp [hsz]) (fun j k hj hk=>?_) r1 ⟨q2.size,q2.defers,fun t v hv=>?_⟩ (fun id hid=>?_) (fun j hj hl=>?_)
      · have:i ∈ us:=(hus i).2 ⟨hlt,h1⟩
        rw [List.length_erase_of_mem this];omega
      · rw [hnd.mem_erase_iff,hus,hset]
        constructor
        · rintro ⟨k1,k2,k3⟩;rw [if_neg k1];exact ⟨k2,k3⟩
        · rintro ⟨k2,k3⟩
          split at k3
          · cases k3
          · rename_i k1;exact ⟨k1,k2,k3⟩
      · rw [hset] at hj ⊢
        split
        · rfl
        · split at hj
          · rename_i e;subst e;exact (hmask k hk).1
          · exact hdc j k hj hk
      · rw [eE] at hv
        exact (q2.slot t v hv).mono (Same.refl _ _) (fun b h _=>(r2 b).1 h) (fun _ _ h=>h)
      · rw [q3 id (by omega) (by omega)];exact hρ id hid
      · rw [hset] at hl
        split at hl
        · cases hl
        · rename_i hne
          rw [q3 _ (by omega) (by omega)];exact hfr j hj hl
end
end Go.Proofs.YtendheafcbickaaGreat
end
section
namespace Go.Proofs.YtendheafcbickaaGreat
open Go.RowKit
section
variable {P:Program} {N nt b0 k k' n0:Nat} {ops:List Oper} {W:Nat→Nat→Bool} {o:Oper} {rest:List Oper} {env:List (Nat×V)} {heap:List (Nat×Option Blk)} {Q:St→Prop}
def lk:List Nat→List (Nat×V)→List (Nat×V)
  | [],_=>[]
  | t :: ts,env=>match getE env t with
    | some v=>(t,v) :: lk ts env
    | none=>lk ts env
theorem lk_spec:∀ {ts:List Nat} {env:List (Nat×V)} {t:Nat} {x:V},getE (lk ts env) t=some x→t ∈ ts∧getE env t=some x
  | [],env,t,x,h=>by simp [lk,getE] at h
  | s :: ts,env,t,x,h=>by
    simp only [lk] at h
    split at h
    · rename_i v hv
      simp only [getE] at h
      cases hb:Nat.beq s t with
      | true=>
        rw [hb] at h
        simp only [cond_true,Option.some.injEq] at h
        have:=Nat.eq_of_beq_eq_true hb
        subst this;subst h
        exact ⟨List.mem_cons_self,hv⟩
      | false=>
        rw [hb] at h
        have:=lk_spec (ts:=ts) h
        exact ⟨List.mem_cons_of_mem _ this.1,this.2⟩
    · have:=lk_spec (ts:=ts) h
      exact ⟨List.mem_cons_of_mem _ this.1,this.2⟩
def CovE (E env:List (Nat×V)):Prop:=∀ t x,getE E t=some x→getE env t=some x
def CovH (E env:List (Nat×Option Blk)):Prop:=∀ t x,getH E t=some x→getH env t=some x
theorem opE_mono {E env:List (Nat×V)} (h:CovE E env) {x:Operand} {v:V} (hx:opE E x=some v):opE env x=some v:=by
  cases x with
  | tmp t=>exact h t v hx
  | const c=>cases c <;> exact hx
  | _=>exact hx
mutual
theorem snapV_mono {E env:List (Nat×Option Blk)} (h:CovH E env):∀ (v:V) {v':V},snapV E v=some v' → snapV env v=some v'
  | .lit _,_,hv=>hv
  | .ro _,_,hv=>hv
  | .own id,v',hv=>by
    simp only [snapV] at hv ⊢
    cases hB:getH E id with
    | none=>rw [hB] at hv;cases hv
    | some B=>rw [h id B hB];rw [hB] at hv;exact hv
  | .ptr ..,_,hv=>hv
  | .rp _,_,hv=>hv
  | .agg cs,v',hv=>by
    simp only [snapV] at hv ⊢
    split at hv
    · rename_i cs' h1;rw [snapL_mono h cs h1];exact hv
    · cases hv
  | .tup cs,v',hv=>by
    simp only [snapV] at hv ⊢
    split at hv
    · rename_i cs' h1;rw [snapL_mono h cs h1];exact hv
    · cases hv
  | .clo ..,_,hv=>hv
  | .any,_,hv=>hv
  | .und,_,hv=>hv
theorem snapL_mono {E env:List (Nat×Option Blk)} (h:CovH E env):∀ (cs:List V) {cs':List V},snapV.snapL E cs=some cs' → snapV.snapL env cs=some cs'
  | [],_,hv=>hv
  | c :: cs,cs',hv=>by
    simp only [snapV.snapL] at hv ⊢
    split at hv
    · rename_i c' cs'' h1 h2
      rw [snapV_mono h c h1,snapL_mono h cs h2];exact hv
    · cases hv
end
theorem argsE_mono {E env:List (Nat×V)} (h:CovE E env):∀ {xs:List Operand} {vs:List V},argsE E xs=some vs→argsE env xs=some vs
  | [],vs,hx=>hx
  | x :: xs,vs,hx=>by
    simp only [argsE] at hx ⊢
    split at hx
    · rename_i v vs' h1 h2
      rw [opE_mono h h1,argsE_mono h h2];exact hx
    · cases hx
theorem guardV_mono {E env:List (Nat×V)} (h:CovE E env) {g:Option (Nat×Bool)} {b:Bool} (hg:guardV E ops g=some b):guardV env ops g=some b:=by
  cases g with
  | none=>exact hg
  | some jb=>
    obtain ⟨j,w⟩:=jb
    simp only [guardV] at hg ⊢
    cases hj:ops[j]? with
    | none=>rw [hj] at hg;cases hg
    | some oj=>
      simp only [hj] at hg ⊢
      cases hd:oj.dst with
      | none=>simp only [hd] at hg;cases hg
      | some d=>
        simp only [hd] at hg ⊢
        cases he:getE E d with
        | none=>simp only [he] at hg;cases hg
        | some v=>rw [h d v he];rw [he] at hg;exact hg
theorem fam_skip {kk:Nat} {E:List (Nat×V)} {Hn:List (Nat×Option Blk)} (hg:guardV E ops o.guard=some false) (hd:dstOk nt o.dst=true):Fam P N nt kk ops o E Hn ⟨.und,[]⟩:=
  fun env heap hE hH F M w0 ρ a w h1 h2 hk=>by
    unfold stepWp
    rw [if_neg (by rw [guardV_spec h2 (guardV_mono hE hg)];exact Bool.false_ne_true)]
    refine ⟨ρ,h1,?_,fun _ _ _=>rfl⟩
    have:=ERel.putD (st:=⟨env,heap,N,nt⟩) h2 hd (v:=.und) .und
    cases hd2:o.dst with
    | none=>rw [hd2] at this;exact this
    | some d=>rw [hd2] at this;exact this
theorem putD_ok {ρ:Nat→Option Value} {S:Nat→Prop} {w:World} {a:Act} {env:List (Nat×V)} (h:ERel ρ S w nt env a) {d:Option Tmp} (hd:dstOk nt d=true) {v:V} {u:Value} (hv:VRel ρ S w v u):ERel ρ S w nt (putE d v env) (a.put d u):=by
  cases d with
  | none=>exact h
  | some d=>exact h.put (Nat.le_of_ble_eq_true hd) hv
theorem fam_q {kk:Nat} {E:List (Nat×V)} {Hn:List (Nat×Option Blk)} {v:V} (hg:guardV E ops o.guard=some true) (hd:dstOk nt o.dst=true) (hq:QStep P [] o ⟨E,Hn,N,nt⟩ v):Fam P N nt kk ops o E Hn ⟨v,[]⟩:=
  fun env heap hE hH F M w0 ρ a w h1 h2 hk=>by
    unfold stepWp
    rw [if_pos (guardV_spec h2 (guardV_mono hE hg))]
    have hS:∀ b,Stab (Stab F ρ heap) ρ Hn b ↔ Stab F ρ heap b:=fun b=>⟨fun h=>h.1,fun h=>⟨h,fun id B u hB ho hu=>h.2 id B u (hH id B hB) ho hu⟩⟩
    have hS2:Stab (Stab F ρ heap) ρ Hn=Stab F ρ heap:=funext fun b=>propext (hS b)
    have g1:HRel0 (Stab F ρ heap) M ρ Hn N w0 w:=⟨h1.below,h1.hbase,h1.sup,fun id id' B B' u u' b hB hB'=>h1.inj id id' B B' u u' b (hH _ _ hB) (hH _ _ hB'),fun id B hB=>by rw [hS2];exact h1.blk id B (hH _ _ hB)⟩
    have g2:ERel ρ (Stab (Stab F ρ heap) ρ Hn) w nt E a:=⟨h2.size,h2.defers,fun t v hv=>by rw [hS2];exact h2.slot t v (hE t v hv)⟩
    obtain ⟨u,q1,q2⟩:=hq _ M w0 ρ a w g1 g2 rfl
    rw [hS2] at q1
    exact wp_of_value (q2 w (Ext.refl _ _)) ⟨ρ,h1,putD_ok h2 hd q1,fun _ _ _=>rfl⟩
theorem fam_at {kk:Nat} {E:List (Nat×V)} {Hn H:List (Nat×Option Blk)} {v:V} (hg:guardV E ops o.guard=some true) (hkN:kk<N)
    (hq:∀ env heap,CovE E env→CovH Hn heap→GAt P kk o ⟨env,heap,N,nt⟩ ⟨putE o.dst v env,H++heap,N,nt⟩):Fam P N nt kk ops o E Hn ⟨v,H⟩:=
  fun env heap hE hH F M w0 ρ a w h1 h2 hk=>by
    unfold stepWp
    rw [if_pos (guardV_spec h2 (guardV_mono hE hg))]
    refine upon_mono0 ?_ (hq env heap hE hH F M w0 ρ a w h1 h2 hk hkN)
    rintro a' w' ⟨ρ',q1,q2,q3,q4⟩
    exact ⟨ρ',q1,q2,fun id _ h=>q4 id h⟩
theorem fam_g {kk:Nat} {E:List (Nat×V)} {Hn H:List (Nat×Option Blk)} {v:V} (hg:guardV E ops o.guard=some true)
    (hq:∀ env heap,CovE E env→CovH Hn heap→GStep P N o ⟨env,heap,N,nt⟩ ⟨putE o.dst v env,H++heap,N,nt⟩):Fam P N nt kk ops o E Hn ⟨v,H⟩:=
  fun env heap hE hH F M w0 ρ a w h1 h2 hk=>by
    unfold stepWp
    rw [if_pos (guardV_spec h2 (guardV_mono hE hg))]
    refine upon_mono0 ?_ (hq env heap hE hH F M w0 ρ a w h1 h2)
    rintro a' w' ⟨ρ',q1,q2,q3,q4⟩
    exact ⟨ρ',q1,q2,fun id h _=>q4 id h⟩
def PL (P:Program) (nt b0:Nat) (ops:List Oper) (W:Nat→Nat→Bool) (k:Nat) (rest:List Oper) (env:List (Nat×V)) (heap:List (Nat×Option Blk)) (Q:St→Prop):Prop:=
  ∃ ss eF hF,b0≤k∧k+rest.length=b0+ops.length∧Plan P (b0+ops.length) nt b0 ops W (k - b0) rest env heap ss eF hF∧Q ⟨eF,hF,b0+ops.length,nt⟩
theorem p_nil (h:Q ⟨env,heap,k,nt⟩) (hk:Nat.beq k (b0+ops.length)=true:=by kernel_rfl) (hb:Nat.ble b0 k=true:=by kernel_rfl):PL P nt b0 ops W k [] env heap Q:=by
  have e:=Nat.eq_of_beq_eq_true hk
  refine ⟨[],env,heap,Nat.le_of_ble_eq_true hb,by simpa using e,.nil _ _ _,?_⟩
  rw [← e];exact h
theorem p_cons {s:Stp} (hs:∀ N,b0≤k→k<N→StepOK P N nt b0 ops W (k - b0) o env heap s) (h:PL P nt b0 ops W (k+1) rest (putE o.dst s.v env) (s.H++heap) Q) (hb:Nat.ble b0 k=true):PL P nt b0 ops W k (o :: rest) env heap Q:=by
  obtain ⟨ss,eF,hF,h1,h2,h3,h4⟩:=h
  have hb:=Nat.le_of_ble_eq_true hb
  refine ⟨s :: ss,eF,hF,hb,by simp only [List.length_cons];omega,.cons (hs _ hb (by omega)) ?_,h4⟩
  rw [show k - b0+1=k+1 - b0 by omega];exact h3
theorem r_draw {id:Nat} {st:St} {Q:Exit→St→Prop} {l:List Oper} (W:Nat→Nat→Bool) (h:PL P st.nt st.next l W st.next l st.env st.heap (Q .normal)) (hm:P.follows .mixedOrders=true:=by kernel_rfl) (hok:okText l=true:=by kernel_rfl) (hn0:Nat.ble n0 st.next=true:=by kernel_rfl) :
    Run P n0 (.region id l.toArray true) st Q:=fun F base w0 ρ a w hH hE=>by
  obtain ⟨ss,eF,hF,_,_,h3,h4⟩:=h
  rw [Nat.sub_self] at h3
  have hn0:=Nat.le_of_ble_eq_true hn0
  have hgd:∀ i,(Array.replicate l.length false).getD i false=false:=fun i=>by
    rw [Array.getD_eq_getD_getElem?,Array.getElem?_replicate]
    split <;> rfl
  have e1:envU (l.zip ss) 0 (fun i=>(Array.replicate l.length false).getD i false) st.env=st.env:=envU_false _ _ _ _ (fun j=>hgd _)
  have e2:heapU (l.zip ss) 0 (fun i=>(Array.replicate l.length false).getD i false) st.heap=st.heap:=heapU_false _ _ _ _ (fun j=>hgd _)
  refine wp_mono (wp_region_any hm (Q:=Post n0 F base w0 ρ (NQ fun s=>s=⟨eF,hF,st.next+l.length,st.nt⟩)) ?_) (fun e a w hp=>?_)
  · have hsame:Same (Stab F ρ st.heap) w { w with drawn:=w.drawn+1 }:=fun b _ _=>rfl
    have hH':HRel F base ρ st.heap (st.next+l.length) w0 { w with drawn:=w.drawn+1 }:=
      ⟨⟨⟨hH.below.os,hH.below.tape,hH.below.output,hH.below.size,hH.below.block⟩,hH.hbase,fun id u h=>⟨Nat.lt_of_lt_of_le (hH.sup id u h).1 (Nat.le_add_right _ _),(hH.sup id u h).2⟩,hH.inj,
        fun id B hB=>(hH.blk id B hB).mono hsame (fun b h _=>h) (fun _ _ h=>h) (fun _ _ _ _ _ _=>rfl)⟩,hH.hF⟩
    have hE':=hE.mono hsame (fun b h _=>h) (fun _ _ h=>h)
    have:=plan_sound (n0:=n0) hok h3 hn0 (F:=F) (M:=base) (w0:=w0) (ρ0:=ρ) l.length (List.range l.length) (Array.replicate l.length false) a { w with drawn:=w.drawn+1 } ρ (by simp) List.nodup_range
      (fun i=>by rw [hgd];simp) (by simp) (fun i j h=>by rw [hgd] at h;cases h) (by rw [e2];exact hH') (by rw [e1,e2];exact hE') (fun _ _=>rfl)
      (fun i hi _=>by
        cases hρ:ρ (st.next+i) with
        | none=>rfl
        | some u=>have:=(hH.sup _ _ hρ).1;omega)
    simpa using this
  · obtain ⟨ρ',s',⟨rfl,rfl⟩,q1,q2,q3⟩:=hp
    exact ⟨ρ',_,h4,q1,q2,q3⟩
theorem inH_nil {id:Nat} (h:inH [] id=true):False:=by cases h
theorem ok_q {E:List (Nat×V)} {v:V} {i:Nat} {Hn:List (Nat×Option Blk)} (hE:E=lk (looks ops o) env) (hHn:∀ id B,getH Hn id=some B→vis ops W b0 i id=true∧getH heap id=some B) (hg:guardV E ops o.guard=some true) (hd:dstOk nt o.dst=true) (hq:QStep P [] o ⟨E,Hn,N,nt⟩ v) :
    StepOK P N nt b0 ops W i o env heap ⟨v,[]⟩:=⟨E,Hn,fun t x h=>lk_spec (by rw [← hE];exact h),hHn,fun id h=>(inH_nil h).elim,fam_q hg hd hq⟩
theorem y_q {v:V} {d:Nat} (hg:guardV (lk (looks ops o) env) ops o.guard=some true) (hd:o.dst=some d) (hdn:Nat.blt d nt=true) (hb:Nat.ble b0 k=true) (hk:k+1=k') (hq:∀ N,QStep P [] o ⟨lk (looks ops o) env,[],N,nt⟩ v)
    (h:PL P nt b0 ops W k' rest ((d,v) :: env) heap Q):PL P nt b0 ops W k (o :: rest) env heap Q:=by
  subst hk
  refine p_cons (s:=⟨v,[]⟩) (fun N _ _=>ok_q (Hn:=[]) rfl (fun id B h=>by cases h) hg (by rw [hd];exact hdn) (hq N)) ?_ hb
  rw [hd];exact h
theorem y_h {v:V} {d id:Nat} {B:Blk} (hg:guardV (lk (looks ops o) env) ops o.guard=some true) (hd:o.dst=some d) (hdn:Nat.blt d nt=true) (hb:Nat.ble b0 k=true) (hk:k+1=k') (hB:getH heap id=some B) (hv:vis ops W b0 (k - b0) id=true) (hq:∀ N,QStep P [] o ⟨lk (looks ops o) env,[(id,some B)],N,nt⟩ v)
    (h:PL P nt b0 ops W k' rest ((d,v) :: env) heap Q):PL P nt b0 ops W k (o :: rest) env heap Q:=by
  subst hk
  refine p_cons (s:=⟨v,[]⟩) (fun N _ _=>ok_q (Hn:=[(id,some B)]) rfl (fun id' B' h'=>?_) hg (by rw [hd];exact hdn) (hq N)) ?_ hb
  · rw [getH_new] at h'
    split at h'
    · rename_i e;subst e;injection h' with h';subst h';exact ⟨hv,hB⟩
    · cases h'
  · rw [hd];exact h
theorem p_skip {d:Nat} (hg:guardV (lk (looks ops o) env) ops o.guard=some false:=by rfl) (hd:o.dst=some d:=by rfl) (hdn:Nat.blt d nt=true:=by rfl) (hk:k+1=k':=by (simp only [Nat.reduceAdd];rfl)) (hb:Nat.ble b0 k=true:=by rfl)
    (h:PL P nt b0 ops W k' rest ((d,.und) :: env) heap Q):PL P nt b0 ops W k (o :: rest) env heap Q:=by
  subst hk
  refine p_cons (s:=⟨.und,[]⟩) (fun N _ _=>⟨lk (looks ops o) env,[],fun t x h=>lk_spec h,fun id B h=>(by cases h),fun id h=>(inH_nil h).elim,fam_skip hg (by rw [hd];exact hdn)⟩) ?_ hb
  rw [hd];exact h
theorem p_q {v u:V} {d:Nat} (hq:stepV P [] ⟨lk (looks ops o) env,[],0,nt⟩ o.op=some v:=by rfl) (hg:guardV (lk (looks ops o) env) ops o.guard=some true:=by rfl) (hN:NormV v u:=by first|(apply NormV.agg;repeat' first|exact Norm.nil|apply Norm.cons)|(apply NormV.rp;repeat' first|exact Norm.nil|apply Norm.cons)|exact NormV.same)
    (hd:o.dst=some d:=by rfl) (hdn:Nat.blt d nt=true:=by rfl) (hk:k+1=k':=by (simp only [Nat.reduceAdd];rfl)) (hb:Nat.ble b0 k=true:=by rfl) (h:PL P nt b0 ops W k' rest ((d,u) :: env) heap Q):PL P nt b0 ops W k (o :: rest) env heap Q:=
  y_q hg hd hdn hb hk (fun N=>by rw [← hN.eq];exact stepV_spec (st:=⟨lk (looks ops o) env,[],N,nt⟩) (by exact hq)) h
def readId (env:List (Nat×V)) (op:Op):Option Nat:=
  let of (x:Operand):Option Nat:=match opE env x with
    | some (.ptr id _ _ _)=>some id
    | some (.own id)=>some id
    | _=>none
  match op with
  | .load _ x=>of x
  | .indexAddr _ x _=>of x
  | .call { callee:=.builtin .len,args:=⟨[x]⟩,argTypes:=_ }=>of x
  | _=>none
theorem p_qh {v u:V} {d id:Nat} {B:Blk} (hid:readId (lk (looks ops o) env) o.op=some id:=by rfl) (hB:getH heap id=some B:=by rfl) (hq:stepV P [] ⟨lk (looks ops o) env,[(id,some B)],0,nt⟩ o.op=some v:=by rfl) (hg:guardV (lk (looks ops o) env) ops o.guard=some true:=by rfl) (hN:NormV v u:=by first|(apply NormV.agg;repeat' first|exact Norm.nil|apply Norm.cons)|(apply NormV.rp;repeat' first|exact Norm.nil|apply Norm.cons)|exact NormV.same)
    (hd:o.dst=some d:=by rfl) (hdn:Nat.blt d nt=true:=by rfl) (hk:k+1=k':=by (simp only [Nat.reduceAdd];rfl)) (hb:Nat.ble b0 k=true:=by rfl) (hv:vis ops W b0 (k - b0) id=true:=by kernel_rfl) (h:PL P nt b0 ops W k' rest ((d,u) :: env) heap Q):PL P nt b0 ops W k (o :: rest) env heap Q:=
  y_h hg hd hdn hb hk hB hv (fun N=>by rw [← hN.eq];exact stepV_spec (st:=⟨lk (looks ops o) env,[(id,some B)],N,nt⟩) (by exact hq)) h
theorem p_cmp {p:Prop} {d:Nat} (hq:cmpV (lk (looks ops o) env) o.op=some p:=by rfl) (hg:guardV (lk (looks ops o) env) ops o.guard=some true:=by rfl) (hd:o.dst=some d:=by rfl) (hdn:Nat.blt d nt=true:=by rfl) (hk:k+1=k':=by (simp only [Nat.reduceAdd];rfl)) (hb:Nat.ble b0 k=true:=by rfl)
    (ht:p→PL P nt b0 ops W k' rest ((d,.lit (.bool true)) :: env) heap Q) (hf:¬ p→PL P nt b0 ops W k' rest ((d,.lit (.bool false)) :: env) heap Q):PL P nt b0 ops W k (o :: rest) env heap Q:=by
  by_cases hp:p
  · exact y_q hg hd hdn hb hk (fun N=>(cmpV_spec (st:=⟨lk (looks ops o) env,[],N,nt⟩) hq).1 hp) (ht hp)
  · exact y_q hg hd hdn hb hk (fun N=>(cmpV_spec (st:=⟨lk (looks ops o) env,[],N,nt⟩) hq).2 hp) (hf hp)
theorem p_nw {kd:IntKind} {r:Int} {d:Nat} (hq:rawV (lk (looks ops o) env) P o.op=some (kd,r):=by rfl) (hg:guardV (lk (looks ops o) env) ops o.guard=some true:=by rfl) (hr:kd.wrap r=r:=by first|(rw [IntKind.wrap_i64];omega)|(rw [IntKind.wrap_u64];omega)|(rw [IntKind.wrap_u8];omega))
    (hd:o.dst=some d:=by rfl) (hdn:Nat.blt d nt=true:=by rfl) (hk:k+1=k':=by (simp only [Nat.reduceAdd];rfl)) (hb:Nat.ble b0 k=true:=by rfl) (h:PL P nt b0 ops W k' rest ((d,.lit (.int kd r)) :: env) heap Q):PL P nt b0 ops W k (o :: rest) env heap Q:=
  y_q hg hd hdn hb hk (fun N=>by have:=rawV_spec (st:=⟨lk (looks ops o) env,[],N,nt⟩) (P:=P) (G:=[]) hq;rw [hr] at this;exact this) h
theorem p_len {x:Operand} {t e:TypeId} {l:List (List V)} {n d:Nat} (ho:o.op = .call { callee:=.builtin .len,args:=#[x],argTypes:=#[t] }:=by rfl) (hx:opE (lk (looks ops o) env) x=some (.ro l):=by rfl)
    (ht:P.underlying t=some (.slice e):=by rfl) (hn:l.length=n:=by first|exact List.length_map _|(simp only [List.length_map,List.length_append,List.length_cons,List.length_nil,List.length_set];rfl)|rfl)
    (hg:guardV (lk (looks ops o) env) ops o.guard=some true:=by rfl) (hd:o.dst=some d:=by rfl) (hdn:Nat.blt d nt=true:=by rfl) (hk:k+1=k':=by (simp only [Nat.reduceAdd];rfl)) (hb:Nat.ble b0 k=true:=by rfl) (h:PL P nt b0 ops W k' rest ((d,.lit (.int .i64 n)) :: env) heap Q):PL P nt b0 ops W k (o :: rest) env heap Q:=by
  subst hn
  refine y_q hg hd hdn hb hk (fun N=>lenV_spec (P:=P) ho hx ?_) h
  unfold lenV
  rw [ht]
theorem p_i {v u:V} {d:Nat} (hg:guardV (lk (looks ops o) env) ops o.guard=some true:=by rfl) (hd:o.dst=some d:=by rfl) (hdn:Nat.blt d nt=true:=by rfl) (hk:k+1=k':=by (simp only [Nat.reduceAdd];rfl)) (hb:Nat.ble b0 k=true:=by rfl)
    (hq:∀ N,QStep P [] o ⟨lk (looks ops o) env,[],N,nt⟩ v:=by
      intro N
      first
        | exact q_index_ro rfl rfl rfl (by first|exact lit0|exact lit1|exact lit2|exact lit3|rfl|exact castp (by omega)|exact (Int.toNat_of_nonneg (by omega)).symm) (by first|omega|(simp only [List.length_map];omega)) rfl rfl rfl (eAt_map _ (by omega))
        | exact q_shl rfl rfl rfl (by omega)
        | exact q_shr rfl rfl rfl (by omega)
        | exact q_quo rfl rfl rfl (by omega)
        | exact q_rem rfl rfl rfl (by omega)
        | exact q_index_str rfl rfl rfl rfl (by omega) rfl
        | exact q_index_arr rfl rfl rfl rfl rfl (by omega) rfl
        | exact q_str_add rfl rfl rfl (by omega))
    (hN:NormV v u:=by first|(apply NormV.agg;repeat' first|exact Norm.nil|apply Norm.cons)|(apply NormV.rp;repeat' first|exact Norm.nil|apply Norm.cons)|exact NormV.same)
    (h:PL P nt b0 ops W k' rest ((d,u) :: env) heap Q):PL P nt b0 ops W k (o :: rest) env heap Q:=y_q hg hd hdn hb hk (fun N=>by rw [← hN.eq];exact hq N) h
theorem p_ih {v u:V} {d id:Nat} {B:Blk} (hid:readId (lk (looks ops o) env) o.op=some id:=by rfl) (hB:getH heap id=some B:=by rfl) (hg:guardV (lk (looks ops o) env) ops o.guard=some true:=by rfl) (hd:o.dst=some d:=by rfl) (hdn:Nat.blt d nt=true:=by rfl) (hk:k+1=k':=by (simp only [Nat.reduceAdd];rfl)) (hb:Nat.ble b0 k=true:=by rfl) (hv:vis ops W b0 (k - b0) id=true:=by kernel_rfl)
    (hq:∀ N,QStep P [] o ⟨lk (looks ops o) env,[(id,some B)],N,nt⟩ v:=by
      intro N
      first
        | exact q_index_row rfl rfl rfl rfl (by first|exact lit0|exact lit1|exact lit2|exact lit3|rfl|exact castp (by omega)|exact (Int.toNat_of_nonneg (by omega)).symm) (by first|omega|(simp only [List.length_map,List.length_append,List.length_cons,List.length_nil];omega)) rfl rfl
        | exact q_load_one rfl rfl rfl (reads_row rfl (by first|omega|(simp only [List.length_map];omega)) rfl (eAt_map _ (by omega))) rfl
        | exact q_load_agg rfl rfl rfl rfl (reads_row rfl (by first|omega|(simp only [List.length_map];omega)) rfl (eAt_map _ (by omega))) (Nat.le_of_ble_eq_true rfl))
    (hN:NormV v u:=by first|(apply NormV.agg;repeat' first|exact Norm.nil|apply Norm.cons)|(apply NormV.rp;repeat' first|exact Norm.nil|apply Norm.cons)|exact NormV.same)
    (h:PL P nt b0 ops W k' rest ((d,u) :: env) heap Q):PL P nt b0 ops W k (o :: rest) env heap Q:=y_h hg hd hdn hb hk hB hv (fun N=>by rw [← hN.eq];exact hq N) h
theorem p_call {f:FuncId} {xs:Array Operand} {ts:Array TypeId} {vs vs':List V} {r:V} {d:Nat} (hf:Fn P f vs' r) (ho:o.op = .call { callee:=.value (.func f),args:=xs,argTypes:=ts }:=by rfl) (hg:guardV (lk (looks ops o) env) ops o.guard=some true:=by rfl) (hd:o.dst=some d:=by rfl) (hdn:Nat.blt d nt=true:=by rfl)
    (hx : argsE (lk (looks ops o) env) xs.toList = some vs := by rfl) (hbl : belowV.belowL 0 vs = true := by rfl) (hw : WkL vs vs' := by ((repeat' (first | exact WkL.nil | refine WkL.cons ?_ ?_ | exact Wk.refl _ | exact Wk.nil | refine Wk.agg ?_ | refine Wk.tup ?_)); first | done | fail "args")) (hk : k + 1 = k' := by (simp only [Nat.reduceAdd]; rfl)) (hb : Nat.ble b0 k = true := by rfl) (h : PL P nt b0 ops W k' rest ((d, r) :: env) heap Q) : PL P nt b0 ops W k (o :: rest) env heap Q := by
  subst hk
  refine p_cons (s:=⟨r,[]⟩) (fun N _ _=>⟨lk (looks ops o) env,[],fun t x h=>lk_spec h,fun id B h=>(by cases h),fun id h=>(inH_nil h).elim,fam_g hg (fun env' heap' hE hH=>?_)⟩) ?_ hb
  · have:=g_call (P:=P) (n0:=N) (st:=⟨env',heap',N,nt⟩) ho (by rw [hd];exact hdn) (argsE_mono hE hx) hbl (fn_weak hf hw)
    rw [hd] at this ⊢
    exact this
  · rw [hd];exact h
theorem p_ask {f:FuncId} {xs:Array Operand} {ts:Array TypeId} {vs vs':List V} {b:Bool} {d:Nat} (hf:Fn P f vs' (.lit (.bool b))) (ho:o.op = .call { callee:=.value (.func f),args:=xs,argTypes:=ts }:=by rfl) (hg:guardV (lk (looks ops o) env) ops o.guard=some true:=by rfl) (hd:o.dst=some d:=by rfl) (hdn:Nat.blt d nt=true:=by rfl)
    (hx : argsE (lk (looks ops o) env) xs.toList = some vs := by rfl) (hbl : belowV.belowL 0 vs = true := by rfl) (hw : WkL vs vs' := by ((repeat' (first | exact WkL.nil | refine WkL.cons ?_ ?_ | exact Wk.refl _ | exact Wk.nil | refine Wk.agg ?_ | refine Wk.tup ?_)); first | done | fail "args")) (hk : k + 1 = k' := by (simp only [Nat.reduceAdd]; rfl)) (hb : Nat.ble b0 k = true := by rfl) (ht : b = true → PL P nt b0 ops W k' rest ((d, .lit (.bool true)) :: env) heap Q) (hff : b = false → PL P nt b0 ops W k' rest ((d, .lit (.bool false)) :: env) heap Q) : PL P nt b0 ops W k (o :: rest) env heap Q := by
  cases b
  · exact p_call hf ho hg hd hdn hx hbl hw hk hb (hff rfl)
  · exact p_call hf ho hg hd hdn hx hbl hw hk hb (ht rfl)
theorem p_dec {f:FuncId} {xs:Array Operand} {ts:Array TypeId} {vs vs':List V} {p:Prop} [Decidable p] {d:Nat} (hf:Fn P f vs' (.lit (.bool (decide p)))) (ho:o.op = .call { callee:=.value (.func f),args:=xs,argTypes:=ts }:=by rfl) (hg:guardV (lk (looks ops o) env) ops o.guard=some true:=by rfl) (hd:o.dst=some d:=by rfl) (hdn:Nat.blt d nt=true:=by rfl)
    (hx : argsE (lk (looks ops o) env) xs.toList = some vs := by rfl) (hbl : belowV.belowL 0 vs = true := by rfl) (hw : WkL vs vs' := by ((repeat' (first | exact WkL.nil | refine WkL.cons ?_ ?_ | exact Wk.refl _ | exact Wk.nil | refine Wk.agg ?_ | refine Wk.tup ?_)); first | done | fail "args")) (hk : k + 1 = k' := by (simp only [Nat.reduceAdd]; rfl)) (hb : Nat.ble b0 k = true := by rfl) (ht : p → PL P nt b0 ops W k' rest ((d, .lit (.bool true)) :: env) heap Q) (hff : ¬ p → PL P nt b0 ops W k' rest ((d, .lit (.bool false)) :: env) heap Q) : PL P nt b0 ops W k (o :: rest) env heap Q :=
  p_ask hf ho hg hd hdn hx hbl hw hk hb (fun h=>ht (of_decide_eq_true h)) (fun h=>hff (of_decide_eq_false h))
theorem s_dec {next:Nat} {f:FuncId} {xs:Array Operand} {ts:Array TypeId} {vs vs':List V} {p:Prop} [Decidable p] {d:Nat} (hf:Fn P f vs' (.lit (.bool (decide p)))) (ho:o.op = .call { callee:=.value (.func f),args:=xs,argTypes:=ts }:=by rfl) (hg:guardV env ops o.guard=some true:=by rfl) (hd:o.dst=some d:=by rfl) (hdn:Nat.blt d nt=true:=by rfl)
    (hx : argsE env xs.toList = some vs := by rfl) (hb : belowV.belowL 0 vs = true := by rfl) (hw : WkL vs vs' := by ((repeat' (first | exact WkL.nil | refine WkL.cons ?_ ?_ | exact Wk.refl _ | exact Wk.nil | refine Wk.agg ?_ | refine Wk.tup ?_)); first | done | fail "args")) (ht : p → RunL P n0 ops.toArray rest ⟨(d, .lit (.bool true)) :: env, heap, next, nt⟩ Q) (hff : ¬ p → RunL P n0 ops.toArray rest ⟨(d, .lit (.bool false)) :: env, heap, next, nt⟩ Q) : RunL P n0 ops.toArray (o :: rest) ⟨env, heap, next, nt⟩ Q :=
  s_ask hf ho hg hd hdn hx hb hw (fun h=>ht (of_decide_eq_true h)) (fun h=>hff (of_decide_eq_false h))
theorem p_snap {f:FuncId} {xs:Array Operand} {ts:Array TypeId} {vs vs':List V} {r:V} {d id:Nat} {B:Blk} (hf:Fn P f vs' r) (ho:o.op = .call { callee:=.value (.func f),args:=xs,argTypes:=ts }:=by rfl) (hg:guardV (lk (looks ops o) env) ops o.guard=some true:=by rfl) (hd:o.dst=some d:=by rfl) (hdn:Nat.blt d nt=true:=by rfl)
    (hx:argsE (lk (looks ops o) env) xs.toList=some vs:=by rfl) (hB:getH heap id=some B:=by rfl) (hs:snapV.snapL [(id,some B)] vs=some vs':=by rfl) (hr:flatV r=true:=by rfl) (hk:k+1=k':=by (simp only [Nat.reduceAdd];rfl)) (hb:Nat.ble b0 k=true:=by rfl) (hv:vis ops W b0 (k - b0) id=true:=by kernel_rfl) (h:PL P nt b0 ops W k' rest ((d,r) :: env) heap Q):PL P nt b0 ops W k (o :: rest) env heap Q:=by
  subst hk
  refine p_cons (s:=⟨r,[]⟩) (fun N _ _=>⟨lk (looks ops o) env,[(id,some B)],fun t x h=>lk_spec h,fun id' B' h'=>?_,fun id h=>(inH_nil h).elim,fam_g hg (fun env' heap' hE hH=>?_)⟩) ?_ hb
  · rw [getH_new] at h'
    split at h'
    · rename_i e;subst e;injection h' with h';subst h';exact ⟨hv,hB⟩
    · cases h'
  · have:=g_call_snap (P:=P) (n0:=N) (st:=⟨env',heap',N,nt⟩) ho (by rw [hd];exact hdn) (argsE_mono hE hx) (snapL_mono hH _ hs) hf hr
    rw [hd] at this ⊢
    exact this
  · rw [hd];exact h
theorem inH_one {k id:Nat} {B:Option Blk} (h:inH [(k,B)] id=true):id=k:=by
  simp only [inH,Bool.or_false] at h
  exact (Nat.eq_of_beq_eq_true h).symm
theorem p_alloc {T:TypeId} {d:Nat} {cs ds:List V} (ho:o.op = .alloc T:=by rfl) (hg:guardV (lk (looks ops o) env) ops o.guard=some true:=by rfl) (hd:o.dst=some d:=by rfl) (hdn:Nat.blt d nt=true:=by rfl) (hz:zeroT P T=some cs:=by rfl) (hN:Norm cs ds:=by repeat' first|exact Norm.nil|apply Norm.cons) (hk:k+1=k':=by (simp only [Nat.reduceAdd];rfl)) (hb:Nat.ble b0 k=true:=by rfl)
    (h:PL P nt b0 ops W k' rest ((d,.ptr k 0 0 0) :: env) ((k,some (.box T ds)) :: heap) Q):PL P nt b0 ops W k (o :: rest) env heap Q:=by
  subst hk
  have e:=hN.eq
  subst e
  refine p_cons (s:=⟨.ptr k 0 0 0,[(k,some (.box T cs))]⟩) (fun N h1 h2=>⟨lk (looks ops o) env,[],fun t x h=>lk_spec h,fun id B h=>(by cases h),fun id h=>.inl (by rw [inH_one h];omega),?_⟩) ?_ hb
  · rw [show b0+(k - b0)=k by omega]
    refine fam_at hg h2 (fun env' heap' hE hH=>?_)
    have:=a_alloc (P:=P) (k:=k) (st:=⟨env',heap',N,nt⟩) ho hd hdn hz
    rw [hd]
    exact this
  · rw [hd];exact h
theorem p_store {T:TypeId} {x y:Operand} {id s j t:Nat} {cs vs ds:List V} {v:V} (ho:o.op = .store T x y:=by rfl) (hg:guardV (lk (looks ops o) env) ops o.guard=some true:=by rfl) (hd:o.dst=none:=by rfl) (hx:opE (lk (looks ops o) env) x=some (.ptr id 0 s j):=by rfl) (hh:getH heap id=some (.box t cs):=by rfl) (hy:opE (lk (looks ops o) env) y=some v:=by rfl)
    (hf:flat v=some vs:=by rfl) (hT:sizeT P T=some vs.length:=by rfl) (hl:Nat.ble (j+vs.length) cs.length=true:=by rfl) (hN:Norm (setAt j vs cs) ds:=by repeat' first|exact Norm.nil|apply Norm.cons) (hk:k+1=k':=by (simp only [Nat.reduceAdd];rfl)) (hb:Nat.ble b0 k=true:=by rfl) (hW:W (k - b0) id=true:=by rfl) (hv:vis ops W b0 (k - b0) id=true:=by kernel_rfl)
    (h:PL P nt b0 ops W k' rest env ((id,some (.box t ds)) :: heap) Q):PL P nt b0 ops W k (o :: rest) env heap Q:=by
  subst hk
  have e:=hN.eq
  subst e
  refine p_cons (s:=⟨.und,[(id,some (.box t (setAt j vs cs)))]⟩) (fun N h1 h2=>⟨lk (looks ops o) env,[(id,some (.box t cs))],fun t x h=>lk_spec h,fun id' B' h'=>?_,fun id' h=>.inr ?_,?_⟩) ?_ hb
  · rw [getH_new] at h'
    split at h'
    · rename_i e;subst e;injection h' with h';subst h';exact ⟨hv,hh⟩
    · cases h'
  · rw [inH_one h,ho];exact ⟨hW,rfl,hv⟩
  · refine fam_g hg (fun env' heap' hE hH=>?_)
    have:=g_store_box (P:=P) (n0:=N) (st:=⟨env',heap',N,nt⟩) ho hd (opE_mono hE hx) (hH id (.box t cs) (by simp [getH])) (opE_mono hE hy) hf hT hl
    rw [hd]
    exact this
  · rw [hd];exact h
end
end Go.Proofs.YtendheafcbickaaGreat
end
