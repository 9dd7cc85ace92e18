/-
  WHAT ALL PROOFS OF THIS SEAT STAND ON: a law's row out of its walk alone, and what an argument that came in reads as. Plain lemmas, over any program.
-/
import Derived.Test.YtfdomanbdfekhaaRows
import Derived.WalkKit
import Derived.ProofKit
import Derived.WalkSpells
import Derived.WalkLawsBesides
import Derived.OpenShut
import Derived.ShutString
import Derived.ChangeOld
import Derived.Below
import Derived.SizedLaws
import Derived.Deep.Slices
set_option linter.unusedSimpArgs false
set_option linter.unusedVariables false
namespace Go.Proofs.Ytfdomanbdfekhaa
open Go.ChangeShapes Go.WideShapes Go.ChangeAt Go.RowKit Go.Deep

/-- cells that read as data of a type, each part within the form's reach -/
def Cells (P : Program) (W : World) (t : TypeId) (cs : List Value) : Prop :=
  ∃ (H : Type) (enc : TypeId × Value → H) (fuel : Nat) (x : DataW H × List MemPlace),
    DataW.trod enc P W 0 (fun _ => true) true fuel t cs = some x ∧ ∀ n ∈ x.1.weights P t, n ≤ reachBytes

/-- an argument of a law -/
def ArgIs (P : Program) (W : World) (t : TypeId) (v : Value) : Prop :=
  (∃ base, Value.okWide P W .any base t v) ∧ Cells P W t v.cells.toList

def ArgsAre (P : Program) (W : World) : List TypeId → List Value → Prop
  | [], vs => vs = []
  | t :: ts, vs => ∃ v vs', vs = v :: vs' ∧ ArgIs P W t v ∧ ArgsAre P W ts vs'

section
variable {P : Program} {W : World} {t e : TypeId} {v : Value} {cs : List Value}

theorem Cells.int_ {k : IntKind} (hu : P.underlying t = some (.int k)) (h : Cells P W t cs) : ∃ n, cs = [.int k n] ∧ (Lit.int k n).wf = true := by
  obtain ⟨H, enc, fuel, x, hx, _⟩ := h
  obtain ⟨n, h1, _, h3⟩ := DataW.trod_int hu hx
  exact ⟨n, h1, h3⟩

theorem Cells.bool_ (hu : P.underlying t = some .bool) (h : Cells P W t cs) : ∃ b : Bool, cs = [.bool b] := by
  obtain ⟨H, enc, fuel, x, hx, _⟩ := h
  obtain ⟨n, h1, _⟩ := DataW.trod_bool hu hx
  exact ⟨n, h1⟩

theorem Cells.string_ (hu : P.underlying t = some .string) (h : Cells P W t cs) : ∃ s : ByteArray, cs = [.string s] ∧ s.size ≤ reachBytes := by
  obtain ⟨H, enc, fuel, x, hx, hw⟩ := h
  obtain ⟨s, h1, h2, h3⟩ := DataW.trod_string hu hx
  subst h2
  refine ⟨s, h1, ?_⟩
  have hm : s.data.toList.length ∈ (DataW.lit (H := H) (.string s.data.toList)).weights P t := by
    rw [DataW.weights]
    exact List.mem_singleton.2 rfl
  have := hw _ hm
  have e : s.data.toList.length = s.size := Array.length_toList
  rw [e] at this
  exact this

theorem weights_all_mem {H : Type} {P : Program} {e : TypeId} : ∀ {ds : List (DataW H)} {d : DataW H}, d ∈ ds → ∀ n ∈ d.weights P e, n ∈ DataW.weightsAll P e ds
  | [], _, h, _, _ => by cases h
  | d0 :: ds, d, h, n, hn => by
    simp only [DataW.weightsAll, List.mem_append]
    rcases List.mem_cons.1 h with rfl | h
    · exact .inl hn
    · exact .inr (weights_all_mem h n hn)

theorem Cells.slice_ (hu : P.underlying t = some (.slice e)) (h : Cells P W t cs) :
    (cs = [.slice none 0 0]) ∨ ∃ (a : Addr) (len cap : Nat), cs = [.slice (some a) len cap] ∧ len ≤ cap ∧ cap ≤ maxLen ∧ cap * P.bytesOf e ≤ reachBytes ∧
      ∀ i, i < cap → ∃ es, es.length = P.cellsOf e ∧ (∀ j, j < P.cellsOf e → W.cell? ((a.add (i * P.cellsOf e)).add j) = es[j]?) ∧ Cells P W e es := by
  obtain ⟨H, enc, fuel, x, hx, hw⟩ := h
  rcases open_slice hu hx with h0 | ⟨a, len, cap, m, n, D, Pl, hcs, _, hl, hm, hmm, hxx, hi⟩
  · exact .inl h0.1
  · simp only [if_true] at hmm
    subst hmm
    subst hxx
    refine .inr ⟨a, len, m, hcs, hl, hm, ?_, fun i him => ?_⟩
    · have := hw ((len + (m - len)) * P.bytesOf e) (by simp [DataW.weights, hu])
      rwa [show len + (m - len) = m by omega] at this
    · obtain ⟨es, hc, ht⟩ := hi i him
      obtain ⟨_, hl', hat⟩ := World.cells?_some hc
      refine ⟨es, hl', hat, H, enc, n, _, ht, fun n' hn' => hw n' ?_⟩
      simp only [DataW.weights, hu, List.mem_cons, List.mem_append]
      right
      by_cases hil : i < len
      · exact .inl (weights_all_mem (List.mem_map.2 ⟨i, List.mem_range.2 hil, rfl⟩) _ hn')
      · exact .inr (weights_all_mem (List.mem_map.2 ⟨i - len, List.mem_range.2 (by omega), by rw [show len + (i - len) = i by omega]⟩) _ hn')

theorem Cells.struct_ {fs : Array Field} (hu : P.underlying t = some (.struct fs)) (h : Cells P W t cs) :
    cs.length = P.cellsOf t ∧ ∀ (i : Nat) (f : Field), fs[i]? = some f → Cells P W f.type ((cs.drop f.offset).take (P.cellsOf f.type)) := by
  obtain ⟨H, enc, fuel, x, hx, hw⟩ := h
  obtain ⟨xs, n, _, rfl, hl, hlen, hf⟩ := DataW.trod_struct hu hx
  refine ⟨hl, fun i f hi => ?_⟩
  have hlt : i < xs.length := by rw [hlen]; exact (Array.getElem?_eq_some_iff.1 hi).1
  have h1 := hf i f hi
  rw [List.getElem?_eq_getElem hlt] at h1
  refine ⟨H, enc, n, _, h1, fun n' hn' => hw n' ?_⟩
  simp only [DataW.weights, hu]
  exact DataW.weights_mem_each (j := i) (t := f.type) (d := xs[i].1) (by simp [← Array.getElem?_toList] at hi ⊢; exact ⟨f, hi, rfl⟩) (by simp [hlt]) _ hn'

theorem ArgIs.int_ {k : IntKind} (hu : P.underlying t = some (.int k)) (h : ArgIs P W t v) : ∃ n, v = .int k n ∧ (Lit.int k n).wf = true := by
  obtain ⟨⟨b, hb⟩, hc⟩ := h
  obtain ⟨n, rfl⟩ := okWide_int hu hb
  obtain ⟨n', h1, h2⟩ := hc.int_ hu
  simp [Value.cells] at h1
  subst h1
  exact ⟨n, rfl, h2⟩

theorem ArgIs.bool_ (hu : P.underlying t = some .bool) (h : ArgIs P W t v) : ∃ b : Bool, v = .bool b := by
  obtain ⟨⟨b, hb⟩, hc⟩ := h
  exact okWide_bool hu hb

theorem ArgIs.string_ (hu : P.underlying t = some .string) (h : ArgIs P W t v) : ∃ s : ByteArray, v = .string s ∧ s.size ≤ reachBytes := by
  obtain ⟨⟨b, hb⟩, hc⟩ := h
  obtain ⟨s, rfl⟩ := okWide_string hu hb
  obtain ⟨s', h1, h2⟩ := hc.string_ hu
  simp [Value.cells] at h1
  subst h1
  exact ⟨s, rfl, h2⟩

theorem ArgIs.slice_ (hu : P.underlying t = some (.slice e)) (h : ArgIs P W t v) : ∃ a n c, v = .slice a n c ∧ Cells P W t [.slice a n c] := by
  obtain ⟨⟨b, hb⟩, hc⟩ := h
  obtain ⟨a, n, c, rfl⟩ := okWide_slice hu hb
  exact ⟨a, n, c, rfl, by simpa [Value.cells] using hc⟩

theorem ArgIs.struct_ {fs : Array Field} (hu : P.underlying t = some (.struct fs)) (h : ArgIs P W t v) : ∃ cs : List Value, v = .agg cs.toArray ∧ Cells P W t cs := by
  obtain ⟨⟨b, hb⟩, hc⟩ := h
  obtain ⟨cs, rfl, _⟩ := okWide_struct hu hb
  exact ⟨cs.toList, by simp, by simpa [Value.cells] using hc⟩
end

/-! ### A law's row, out of its walk -/
theorem trodAll_below {H : Type} {enc : TypeId × Value → H} {P : Program} (hl : laidOutB P = true) {W W' : World} (hb : Below W.heap.size W W') :
    ∀ {ts : List TypeId} {vs : List Value} {ds : List (DataW H)} {ps : List MemPlace}, (∀ t ∈ ts, P.readableRec t = true ∧ t < P.types.size) →
      DataW.TrodAll enc P W 0 (fun _ => true) true ts vs ds ps → DataW.TrodAll enc P W' 0 (fun b => decide (b < W.heap.size)) true ts vs ds ps
  | [], vs, ds, ps, _, h => by cases vs <;> cases ds <;> simp_all [DataW.TrodAll]
  | t :: ts, vs, ds, ps, hr, h => by
    obtain ⟨v, vs', d, ds', p, q, rfl, rfl, rfl, h1, h2⟩ := trodAll_cons h
    have hlt : ∀ x ∈ p, x.block < W.heap.size := by
      obtain ⟨m, hm⟩ := h1
      exact DataW.trod_lt m _ _ _ hm
    exact trodAll_cons_mk (Below.trod hl (hr t (by simp)).1 (hr t (by simp)).2 h1 hb hlt) (trodAll_below hl hb (fun t' ht => hr t' (by simp [ht])) h2)

theorem argsAre_of {H : Type} {enc : TypeId × Value → H} {P : Program} {W : World} :
    ∀ {ts : List TypeId} {vs : List Value} {ds : List (DataW H)} {ps : List MemPlace}, (∀ (j : Nat) t v, ts[j]? = some t → vs[j]? = some v → ∃ base, Value.okWide P W .any base t v) →
      (∀ n ∈ DataW.weightsEach P ts ds, n ≤ reachBytes) → DataW.TrodAll enc P W 0 (fun _ => true) true ts vs ds ps → ArgsAre P W ts vs
  | [], vs, ds, ps, _, _, h => by cases vs <;> cases ds <;> simp_all [DataW.TrodAll, ArgsAre]
  | t :: ts, vs, ds, ps, hv, hw, h => by
    obtain ⟨v, vs', d, ds', p, q, rfl, rfl, rfl, h1, h2⟩ := trodAll_cons h
    refine ⟨v, vs', rfl, ⟨hv 0 t v rfl rfl, ?_⟩, argsAre_of (fun j t' v' h3 h4 => hv (j + 1) t' v' (by simpa using h3) (by simpa using h4)) (fun n hn => hw n (by simp [DataW.weightsEach, hn])) h2⟩
    obtain ⟨m, hm⟩ := h1
    exact ⟨H, enc, m, _, hm, fun n hn => hw n (by simp [DataW.weightsEach, hn])⟩

/-- THE ROW's STEP of every law: what is left is its walk. -/
theorem law_lifted {C : Checked} {os : Os} {f : FuncId} {fn : Func} {s : ChangeSpec} {tb : TypeId} {H : Type} {enc : TypeId × Value → H}
    (own : ownKnob C.prog.godebug = none) (started : os.Started) (noInit : C.prog.inits.idxOf? f = none) (hfn : C.prog.funcs[f]? = some fn)
    (witness : ∃ (w : World) (tape : Tape) (i : Input), w.os = os ∧ (w.forCall tape i).Shaped C.prog ∧ i.vars = [] ∧ Input.okWide C.prog (w.forCall tape i) .any w.heap.size f i ∧
      s.pre6 enc C.prog fn [] false (w.forCall tape i).memory i.args ∧ ({} : Assume).holds C.prog (lone (Frame.enter C.prog f i.args .normal) [] (w.forCall tape i)))
    (hl : laidOutB C.prog = true) (hvars : s.vars = []) (hspec : ∀ ds : List (DataW H), ds.length = fn.params.size → s.fn H ds = { results := [.lit (.bool true)], args := ds })
    (hres : fn.resultTypes = #[tb]) (hb : C.prog.underlying tb = some .bool) (hreadB : (fn.params.toList.all fun t => C.prog.readableRec t && decide (t < C.prog.types.size)) = true)
    (walk : ∀ (W : World) (args : Array Value), ArgsAre C.prog W fn.params.toList args.toList → Calls C.prog f args W fun e W' => e = .returned (.bool true) ∧ Below W.heap.size W W') :
    ReturnsInHanded {} C os f .any (s.pre6 enc C.prog fn [] false) (s.post enc C.prog fn false true false false) := by
  refine returnsInHanded_of_change_sized own started noInit hfn witness ?_
  have hread : ∀ t ∈ fn.params.toList, C.prog.readableRec t = true ∧ t < C.prog.types.size := fun t ht => by
    have := List.all_eq_true.1 hreadB t ht
    simpa using this
  intro W base args ds gs before hval hW _ hsz _
  have hW' := hW
  obtain ⟨p, q, hA, hV, rfl, hfz, hnd⟩ := hW
  rw [hvars] at hV
  obtain ⟨rfl, rfl⟩ := trodVars_none hV
  have hlen : ds.length = fn.params.size := by
    have : ∀ (ts : List TypeId) (vs : List Value) (ds : List (DataW H)) (ps : List MemPlace), DataW.TrodAll enc C.prog W 0 (fun _ => true) true ts vs ds ps → ds.length = ts.length := by
      intro ts
      induction ts with
      | nil => intro vs ds ps h; cases vs <;> cases ds <;> simp_all [DataW.TrodAll]
      | cons t ts ih =>
        intro vs ds ps h
        obtain ⟨v, vs', d, ds', p, q, rfl, rfl, rfl, h1, h2⟩ := trodAll_cons h
        simp [ih _ _ _ h2]
    simpa using this _ _ _ _ hA
  have hsz' : ∀ n ∈ DataW.weightsEach C.prog fn.params.toList ds, n ≤ reachBytes := by
    have hv : s.plain.varTypes C.prog = [] := by simp [ChangeSpec.plain, DataSpec.varTypes, hvars]
    rw [hv] at hsz
    simpa using hsz
  have hargs : ArgsAre C.prog W fn.params.toList args.toList := argsAre_of (fun j t v h1 h2 => ⟨base, hval j t v (by simpa using h1) (by simpa using h2)⟩) hsz' hA
  refine (walk W args hargs).mono fun e W' ⟨he, bel⟩ => ?_
  subst he
  have hsp := hspec (ds ++ []) (by simpa using hlen)
  refine ⟨_, rfl, ds, [], _, [], p, [], hW', ?_, ?_, ?_, bel.frame _, fun h => by cases h⟩
  · rw [hsp, hres]
    exact trodAll_mk1 (shut_bool hb _)
  · rw [hsp]
    simp only [List.append_nil]
    exact trodAll_below hl bel hread hA
  · rw [hvars, hsp]
    rfl
end Go.Proofs.Ytfdomanbdfekhaa
