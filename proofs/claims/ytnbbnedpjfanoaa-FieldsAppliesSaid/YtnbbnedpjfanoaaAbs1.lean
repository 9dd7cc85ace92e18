/-
  A VALUE CALCULUS OVER THE MODEL, part 1: abstract values, states, and what it says of a world that a state describes. Plain definitions and lemmas, over any program.
-/
import Derived.Handy
import Derived.Lib.Hide
import Derived.IntWalk
import Derived.Laws.IdiomStrings
import Derived.Orders
import Derived.Below
set_option linter.unusedVariables false
set_option linter.unusedSimpArgs false
set_option linter.unusedVariables false
namespace Go.Proofs.Ytnbbnedpjfanoaa
open Go.RowKit

/-- abstract values: a self-contained value; a slice that nobody writes any more (its elements, each as flat cells); a slice of the call's own; a pointer into a block of the call's own (element i of s cells, cell j); a pointer to cells that nobody writes; a struct or array; a tuple; a closure -/
inductive V where
  | lit (v : Value)
  | ro (l : List (List V))
  | own (id : Nat)
  | ptr (id i s j : Nat)
  | rp (cs : List V)
  | agg (cs : List V)
  | tup (vs : List V)
  | clo (f : FuncId) (cs : List V)
  | any
  | und

abbrev dV : V := .lit undef
/-- cell j -/
def cAt (l : List V) (j : Nat) : V := l.getD j dV
/-- element i -/
def eAt (l : List (List V)) (i : Nat) : List V := l.getD i []

/-- a map's key: a whole number of kind q, or a string -/
def keyOk (q : Option IntKind) (v : Value) : Bool := match q, v with
  | some q, .int k _ => decide (k = q)
  | none, .string _ => true
  | _, _ => false
inductive Blk where
  | box (t : TypeId) (cs : List V)
  | row (e : TypeId) (s : Nat) (l : List (List V))
  | fro (l : List (List V))
  | map (q : Option IntKind) (es : List (Value × Value))
  | obj (o : Obj)
def Blk.owns : Blk → Bool
  | .fro _ => false
  | _ => true

structure St where
  env : List (Nat × V)
  heap : List (Nat × Option Blk)
  next : Nat
  nt : Nat

def getE : List (Nat × V) → Nat → Option V
  | [], _ => none
  | (t, v) :: r, s => bif Nat.beq t s then some v else getE r s
def getH : List (Nat × Option Blk) → Nat → Option Blk
  | [], _ => none
  | (t, v) :: r, s => bif Nat.beq t s then v else getH r s

def blockOf : Value → Option Nat
  | .slice (some a) _ _ => some a.block
  | .pointer (some a) => some a.block
  | .map (some b) => some b
  | _ => none

/-- data without anything of the call's own; S: the blocks that nobody writes -/
inductive PRel (S : Nat → Prop) (w : World) : V → Value → Prop
  | lit (v : Value) (h : v.oneCell' = true) : PRel S w (.lit v) v
  | ro (l : List (List V)) (A : Option Addr) (c s b off : Nat) (us : Nat → Nat → Value) (hc : l.length ≤ c) (hm : c ≤ maxLen)
      (hp : 0 < s) (hA : 0 < l.length → A = some ⟨b, off, none⟩ ∧ S b) (hs : ∀ i, i < l.length → (eAt l i).length = s)
      (hcell : ∀ i j, i < l.length → j < s → w.cell? ⟨b, off + i * s + j, none⟩ = some (us i j))
      (hrel : ∀ i j, i < l.length → j < s → PRel S w (cAt (eAt l i) j) (us i j)) : PRel S w (.ro l) (.slice A l.length c)

inductive VRel (ρ : Nat → Option Value) (S : Nat → Prop) (w : World) : V → Value → Prop
  | pure {v : V} {u : Value} (h : PRel S w v u) : VRel ρ S w v u
  | own {id : Nat} {u : Value} (h : ρ id = some u) : VRel ρ S w (.own id) u
  | ptr {id i s j b : Nat} {u : Value} (h : ρ id = some u) (hb : blockOf u = some b) : VRel ρ S w (.ptr id i s j) (.pointer (some ⟨b, i * s + j, none⟩))
  | rp {cs : List V} {b off : Nat} (us : Nat → Value) (hS : 0 < cs.length → S b) (hcell : ∀ j, j < cs.length → w.cell? ⟨b, off + j, none⟩ = some (us j))
      (hrel : ∀ j, j < cs.length → PRel S w (cAt cs j) (us j)) : VRel ρ S w (.rp cs) (.pointer (some ⟨b, off, none⟩))
  | agg {cs : List V} {us : Array Value} (hn : us.size = cs.length) (h : ∀ j, j < cs.length → VRel ρ S w (cAt cs j) (us.getD j undef)) : VRel ρ S w (.agg cs) (.agg us)
  | tup {cs : List V} {us : Array Value} (hn : us.size = cs.length) (h : ∀ j, j < cs.length → VRel ρ S w (cAt cs j) (us.getD j undef)) : VRel ρ S w (.tup cs) (.tuple us)
  | clo {f : FuncId} {cs : List V} {us : Array Value} (hn : us.size = cs.length) (h : ∀ j, j < cs.length → VRel ρ S w (cAt cs j) (us.getD j undef)) : VRel ρ S w (.clo f cs) (.func (.func f) #[] us)
  | any (u : Value) : VRel ρ S w .any u
  | und : VRel ρ S w .und undef

/-- the cells of what S lets by have not turned -/
def Same (S : Nat → Prop) (w w' : World) : Prop := ∀ b, S b → b < w.heap.size → w'.heap[b]? = w.heap[b]?

theorem cell_lt {w : World} {b o : Nat} {u : Value} (h : w.cell? ⟨b, o, none⟩ = some u) : b < w.heap.size := World.block_lt_of_cell? w _ h
theorem Same.cell {S : Nat → Prop} {w w' : World} (h : Same S w w') {b o : Nat} {u : Value} (hS : S b) (hc : w.cell? ⟨b, o, none⟩ = some u) : w'.cell? ⟨b, o, none⟩ = some u := by
  have := h b hS (cell_lt hc)
  rw [← hc]
  simp [World.cell?, this]
theorem Same.refl (S : Nat → Prop) (w : World) : Same S w w := fun _ _ _ => rfl

theorem PRel.mono {S S' : Nat → Prop} {w w' : World} {v : V} {u : Value} (h : PRel S w v u) (hw : Same S w w') (hS : ∀ b, S b → b < w.heap.size → S' b) : PRel S' w' v u := by
  induction h with
  | lit v h => exact .lit v h
  | ro l A c s b off us hc hm hp hA hs hcell hrel ih =>
    by_cases h0 : 0 < l.length
    · have hlt := cell_lt (hcell 0 0 h0 hp)
      exact .ro l A c s b off us hc hm hp (fun _ => ⟨(hA h0).1, hS b (hA h0).2 hlt⟩) hs (fun i j hi hj => hw.cell (hA h0).2 (hcell i j hi hj)) ih
    · exact .ro l A c s b off us hc hm hp (fun h => absurd h h0) hs (fun i j hi => by omega) (fun i j hi => by omega)

theorem VRel.mono {ρ ρ' : Nat → Option Value} {S S' : Nat → Prop} {w w' : World} {v : V} {u : Value} (h : VRel ρ S w v u) (hw : Same S w w')
    (hS : ∀ b, S b → b < w.heap.size → S' b) (hρ : ∀ id u, ρ id = some u → ρ' id = some u) : VRel ρ' S' w' v u := by
  induction h with
  | pure h => exact .pure (h.mono hw hS)
  | own h => exact .own (hρ _ _ h)
  | ptr h hb => exact .ptr (hρ _ _ h) hb
  | @rp cs b off us hSb hcell hrel =>
    refine .rp us (fun h0 => hS b (hSb h0) (cell_lt (hcell 0 h0))) (fun j hj => hw.cell (hSb (by omega)) (hcell j hj)) (fun j hj => (hrel j hj).mono hw hS)
  | agg hn h ih => exact .agg hn ih
  | tup hn h ih => exact .tup hn ih
  | clo hn h ih => exact .clo hn ih
  | any u => exact .any u
  | und => exact .und

/-! ### What a state says of a world -/
/-- nobody writes block b -/
def Stab (F : Nat → Prop) (ρ : Nat → Option Value) (heap : List (Nat × Option Blk)) (b : Nat) : Prop :=
  F b ∧ ∀ id B u, getH heap id = some B → B.owns = true → ρ id = some u → blockOf u ≠ some b

def BRel (base : Nat → Prop) (ρ : Nat → Option Value) (S : Nat → Prop) (w : World) (id : Nat) : Blk → Prop
  | .box t cs => ∃ b us, ρ id = some (.pointer (some ⟨b, 0, none⟩)) ∧ base b ∧ w.heap[b]? = some (.cells us t (0, 0)) ∧ us.size = cs.length ∧
      ∀ j, j < cs.length → VRel ρ S w (cAt cs j) (us.getD j undef) ∧ (us.getD j undef).oneCell' = true
  | .row e s l => 0 < s ∧ ∃ v xs, ρ id = some v ∧ (w.ownsRow 0 e s v l.length xs ∧ ∀ b, blockOf v = some b → base b) ∧ (∀ i, i < l.length → (eAt l i).length = s) ∧
      ∀ i j, i < l.length → j < s → ∃ u, xs[i * s + j]? = some u ∧ PRel S w (cAt (eAt l i) j) u ∧ u.oneCell' = true
  | .fro l => ∃ v, ρ id = some v ∧ PRel S w (.ro l) v ∧ ∀ a n c, v = .slice (some a) n c → a.off = 0
  | .map q es => ∃ b mes clock, ρ id = some (.map (some b)) ∧ base b ∧ w.heap[b]? = some (.map mes clock) ∧ mes.toList.map (fun e => (e.key, e.val)) = es ∧ ∀ p, p ∈ es → keyOk q p.1 = true ∧ p.2.oneCell' = true
  | .obj o => ∃ b, ρ id = some (.pointer (some ⟨b, 0, none⟩)) ∧ base b ∧ w.heap[b]? = some o

theorem BRel.mono {base : Nat → Prop} {ρ ρ' : Nat → Option Value} {S S' : Nat → Prop} {w w' : World} {id : Nat} {B : Blk} (h : BRel base ρ S w id B) (hw : Same S w w')
    (hS : ∀ b, S b → b < w.heap.size → S' b) (hρ : ∀ id u, ρ id = some u → ρ' id = some u) (hblk : B.owns = true → ∀ u b, ρ id = some u → blockOf u = some b → b < w.heap.size → w'.heap[b]? = w.heap[b]?) : BRel base ρ' S' w' id B := by
  cases B with
  | box t cs =>
    obtain ⟨b, us, h1, h2, h3, h4, h5⟩ := h
    have hlt := (Array.getElem?_eq_some_iff.1 h3).1
    exact ⟨b, us, hρ _ _ h1, h2, by rw [hblk rfl _ b h1 rfl hlt]; exact h3, h4, fun j hj => ⟨(h5 j hj).1.mono hw hS hρ, (h5 j hj).2⟩⟩
  | row e s l =>
    obtain ⟨h0, v, xs, h1, h2, h3, h4⟩ := h
    refine ⟨h0, v, xs, hρ _ _ h1, ⟨⟨h2.1.1, ?_⟩, h2.2⟩, h3, fun i j hi hj => ?_⟩
    · rcases h2.1.2 with hn | ⟨g, cap, cur, rfl, hb, hg, rest⟩
      · exact .inl hn
      · exact .inr ⟨g, cap, cur, rfl, hb, by rw [hblk rfl _ g h1 rfl (Array.getElem?_eq_some_iff.1 hg).1]; exact hg, rest⟩
    · obtain ⟨u, hu, hp, ho⟩ := h4 i j hi hj
      exact ⟨u, hu, hp.mono hw hS, ho⟩
  | fro l =>
    obtain ⟨v, h1, h2, h3⟩ := h
    exact ⟨v, hρ _ _ h1, h2.mono hw hS, h3⟩
  | map q es =>
    obtain ⟨b, mes, clock, h1, h2, h3, h4⟩ := h
    exact ⟨b, mes, clock, hρ _ _ h1, h2, by rw [hblk rfl _ b h1 rfl (Array.getElem?_eq_some_iff.1 h3).1]; exact h3, h4⟩
  | obj o =>
    obtain ⟨b, h1, h2, h3⟩ := h
    exact ⟨b, hρ _ _ h1, h2, by rw [hblk rfl _ b h1 rfl (Array.getElem?_eq_some_iff.1 h3).1]; exact h3⟩

/-- nothing that was there turns, but in blocks for which base stands -/
structure Frm (base : Nat → Prop) (w w' : World) : Prop where
  os : w'.os = w.os
  tape : w'.tape = w.tape
  output : w'.output = w.output
  size : w.heap.size ≤ w'.heap.size
  block : ∀ k, k < w.heap.size → ¬ base k → w'.heap[k]? = w.heap[k]?
theorem Frm.refl (base : Nat → Prop) (w : World) : Frm base w w := ⟨rfl, rfl, rfl, Nat.le_refl _, fun _ _ _ => rfl⟩
theorem Frm.trans {base : Nat → Prop} {a b c : World} (h : Frm base a b) (k : Frm base b c) : Frm base a c :=
  ⟨k.os.trans h.os, k.tape.trans h.tape, k.output.trans h.output, Nat.le_trans h.size k.size, fun i hi hb => (k.block i (Nat.lt_of_lt_of_le hi h.size) hb).trans (h.block i hi hb)⟩
theorem Frm.of_below {base : Nat → Prop} {w w' : World} (h : Below w.heap.size w w') : Frm base w w' := ⟨h.os, h.tape, h.output, h.size, fun k hk _ => h.block k hk⟩
theorem Frm.to_below {w w' : World} (h : Frm (fun b => w.heap.size ≤ b) w w') : Below w.heap.size w w' := ⟨h.os, h.tape, h.output, h.size, fun k hk => h.block k hk (by omega)⟩

structure HRel0 (F : Nat → Prop) (base : Nat → Prop) (ρ : Nat → Option Value) (heap : List (Nat × Option Blk)) (next : Nat) (w0 w : World) : Prop where
  below : Frm base w0 w
  hbase : ∀ b, w.heap.size ≤ b → base b
  sup : ∀ id u, ρ id = some u → id < next ∧ u.oneCell' = true
  inj : ∀ id id' B B' u u' b, getH heap id = some B → getH heap id' = some B' → B.owns = true → B'.owns = true → ρ id = some u → ρ id' = some u' → blockOf u = some b → blockOf u' = some b → id = id'
  blk : ∀ id B, getH heap id = some B → BRel base ρ (Stab F ρ heap) w id B
structure HRel (F : Nat → Prop) (base : Nat → Prop) (ρ : Nat → Option Value) (heap : List (Nat × Option Blk)) (next : Nat) (w0 w : World) : Prop extends HRel0 F base ρ heap next w0 w where
  hF : ∀ b, base b → F b

structure ERel (ρ : Nat → Option Value) (S : Nat → Prop) (w : World) (nt : Nat) (env : List (Nat × V)) (a : Act) : Prop where
  size : a.tmps.size = nt
  defers : a.defers = []
  slot : ∀ t v, getE env t = some v → VRel ρ S w v (a.tmps.getD t undef)

/-- the block of something live that is the call's own -/
theorem HRel0.owned {F : Nat → Prop} {base : Nat → Prop} {ρ : Nat → Option Value} {heap : List (Nat × Option Blk)} {next : Nat} {w0 w : World} (h : HRel0 F base ρ heap next w0 w) {id b : Nat} {B : Blk} {u : Value}
    (hB : getH heap id = some B) (ho : B.owns = true) (hu : ρ id = some u) (hb : blockOf u = some b) : base b ∧ b < w.heap.size := by
  have := h.blk id B hB
  cases B with
  | box t cs =>
    obtain ⟨b', us, h1, h2, h3, _⟩ := this
    rw [hu] at h1; cases h1
    simp only [blockOf, Option.some.injEq] at hb
    subst hb
    exact ⟨h2, (Array.getElem?_eq_some_iff.1 h3).1⟩
  | row e s l =>
    obtain ⟨h0, v, xs, h1, h2, _⟩ := this
    rw [hu] at h1; cases h1
    refine ⟨h2.2 b hb, (h2.1.lt b ?_).2⟩
    rcases h2.1.2 with ⟨rfl, _⟩ | ⟨g, _, _, rfl, _⟩
    · simp [blockOf] at hb
    · simpa [blockOf, Value.ownBlock] using hb
  | fro l => cases ho
  | map q es =>
    obtain ⟨b', mes, clock, h1, h2, h3, _⟩ := this
    rw [hu] at h1; cases h1
    simp only [blockOf, Option.some.injEq] at hb
    subst hb
    exact ⟨h2, (Array.getElem?_eq_some_iff.1 h3).1⟩
  | obj o =>
    obtain ⟨b', h1, h2, h3⟩ := this
    rw [hu] at h1; cases h1
    simp only [blockOf, Option.some.injEq] at hb
    subst hb
    exact ⟨h2, (Array.getElem?_eq_some_iff.1 h3).1⟩

/-- one step of the world: at most one own block is written, new ones are made; what is live then: as it was, but for number f -/
theorem HRel.step {F : Nat → Prop} {base : Nat → Prop} {ρ ρ' : Nat → Option Value} {heap heap' : List (Nat × Option Blk)} {next next' : Nat} {w0 w w' : World} (f : Nat) (row : Option Nat)
    (h : HRel F base ρ heap next w0 w) (hg : w.grownBy w' row) (hrow : ∀ k, row = some k → base k ∧ ¬ Stab F ρ heap k)
    (hρ : ∀ id u, ρ id = some u → ρ' id = some u) (hsup : ∀ id u, ρ' id = some u → id < next' ∧ u.oneCell' = true)
    (hold : ∀ id B, id ≠ f → getH heap' id = some B → getH heap id = some B ∧ ∃ u, ρ id = some u ∧ (B.owns = true → ∀ b, blockOf u = some b → row ≠ some b))
    (hfb : ∀ B u b, getH heap' f = some B → B.owns = true → ρ' f = some u → blockOf u = some b → w.heap.size ≤ b ∨ (¬ Stab F ρ heap b ∧ ∀ id B' u', id ≠ f → getH heap' id = some B' → B'.owns = true → ρ' id = some u' → blockOf u' ≠ some b))
    (hf : ∀ B, getH heap' f = some B → (∀ b, Stab F ρ heap b → b < w.heap.size → Stab F ρ' heap' b) → Same (Stab F ρ heap) w w' → BRel base ρ' (Stab F ρ' heap') w' f B) :
    HRel F base ρ' heap' next' w0 w' ∧ Same (Stab F ρ heap) w w' ∧ (∀ b, Stab F ρ heap b → b < w.heap.size → Stab F ρ' heap' b) := by
  have hsame : Same (Stab F ρ heap) w w' := fun b hS hlt => hg.block b hlt (fun e => (hrow b e.symm).2 hS)
  have hstab : ∀ b, Stab F ρ heap b → b < w.heap.size → Stab F ρ' heap' b := by
    intro b hS hlt
    refine ⟨hS.1, fun id B u hB ho hu hb => ?_⟩
    by_cases hid : id = f
    · subst hid
      rcases hfb B u b hB ho hu hb with h1 | h1
      · omega
      · exact h1.1 hS
    · obtain ⟨h1, u', hu', _⟩ := hold id B hid hB
      have := hρ _ _ hu'
      rw [hu] at this; cases this
      exact hS.2 id B u h1 ho hu' hb
  refine ⟨⟨⟨h.below.trans ⟨hg.os, hg.tape, hg.output, hg.size, fun k hk hb => hg.block k hk (fun e => hb (hrow k e.symm).1)⟩, fun b hb => h.hbase b (Nat.le_trans hg.size hb), hsup, ?_, ?_⟩, h.hF⟩, hsame, hstab⟩
  · intro id id' B B' u u' b hB hB' ho ho' hu hu' hb hb'
    by_cases e1 : id = f
    · by_cases e2 : id' = f
      · rw [e1, e2]
      · exfalso
        subst e1
        obtain ⟨h1, v, hv, hvr⟩ := hold id' B' e2 hB'
        have e := hρ _ _ hv
        rw [hu'] at e; cases e
        have hl := (h.owned h1 ho' hv hb').2
        rcases hfb B u b hB ho hu hb with h2 | h2
        · omega
        · exact h2.2 id' B' u' e2 hB' ho' hu' hb'
    · by_cases e2 : id' = f
      · exfalso
        subst e2
        obtain ⟨h1, v, hv, hvr⟩ := hold id B e1 hB
        have e := hρ _ _ hv
        rw [hu] at e; cases e
        have hl := (h.owned h1 ho hv hb).2
        rcases hfb B' u' b hB' ho' hu' hb' with h2 | h2
        · omega
        · exact h2.2 id B u e1 hB ho hu hb
      · obtain ⟨h1, v, hv, _⟩ := hold id B e1 hB
        obtain ⟨h1', v', hv', _⟩ := hold id' B' e2 hB'
        have e := hρ _ _ hv
        rw [hu] at e; cases e
        have e' := hρ _ _ hv'
        rw [hu'] at e'; cases e'
        exact h.inj id id' B B' u u' b h1 h1' ho ho' hv hv' hb hb'
  · intro id B hB
    by_cases e1 : id = f
    · subst e1
      exact hf B hB hstab hsame
    · obtain ⟨h1, v, hv, hvr⟩ := hold id B e1 hB
      refine (h.blk id B h1).mono hsame hstab hρ (fun ho u b hu hb hlt => ?_)
      rw [hv] at hu; cases hu
      exact hg.block b hlt (fun e => hvr ho b hb e.symm)

/-- only new blocks -/
theorem HRel.grow {F : Nat → Prop} {base : Nat → Prop} {ρ : Nat → Option Value} {heap : List (Nat × Option Blk)} {next : Nat} {w0 w w' : World} (h : HRel F base ρ heap next w0 w) (hb : Below w.heap.size w w') :
    HRel F base ρ heap next w0 w' := by
  have hs : Same (Stab F ρ heap) w w' := fun b _ hlt => hb.block b hlt
  refine ⟨⟨h.below.trans (.of_below hb), fun b hbb => h.hbase b (Nat.le_trans hb.size hbb), h.sup, h.inj, fun id B hB => ?_⟩, h.hF⟩
  exact (h.blk id B hB).mono hs (fun b h _ => h) (fun _ _ h => h) (fun _ u b _ _ hlt => hb.block b hlt)

theorem ERel.mono {ρ ρ' : Nat → Option Value} {S S' : Nat → Prop} {w w' : World} {nt : Nat} {env : List (Nat × V)} {a : Act} (h : ERel ρ S w nt env a) (hw : Same S w w')
    (hS : ∀ b, S b → b < w.heap.size → S' b) (hρ : ∀ id u, ρ id = some u → ρ' id = some u) : ERel ρ' S' w' nt env a :=
  ⟨h.size, h.defers, fun t v hv => (h.slot t v hv).mono hw hS hρ⟩

theorem ERel.put {ρ : Nat → Option Value} {S : Nat → Prop} {w : World} {nt : Nat} {env : List (Nat × V)} {a : Act} (h : ERel ρ S w nt env a) {d : Nat} (hd : d < nt) {v : V} {u : Value} (hv : VRel ρ S w v u) :
    ERel ρ S w nt ((d, v) :: env) (a.put (some d) u) := by
  refine ⟨by simp [Act.put, h.size], h.defers, fun t x hx => ?_⟩
  simp only [getE] at hx
  by_cases hdt : d = t
  · subst hdt
    simp only [Nat.beq_refl, cond_true, Option.some.injEq] at hx
    subst hx
    have : (a.put (some d) u).tmps.getD d undef = u := by simp [Act.put, h.size, hd]
    rw [this]; exact hv
  · have hb : Nat.beq d t = false := by
      cases hb : Nat.beq d t
      · rfl
      · exact absurd (Nat.eq_of_beq_eq_true hb) hdt
    rw [hb] at hx
    simp only [cond_false] at hx
    have : (a.put (some d) u).tmps.getD t undef = a.tmps.getD t undef := by
      simp only [Act.put]
      rw [Array.getD_eq_getD_getElem?, Array.getD_eq_getD_getElem?, Array.getElem?_setIfInBounds_ne hdt]
    rw [this]; exact h.slot t x hx
end Go.Proofs.Ytnbbnedpjfanoaa
