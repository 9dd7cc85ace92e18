/-
  A VALUE CALCULUS OVER THE MODEL, part 3: indexes, loads, parts of slices and strings, structs that are built. Plain lemmas, over any program.
-/
import Derived.Test.YtnbbnedpjfanoaaAbs2
set_option linter.unusedVariables false
set_option linter.unusedSimpArgs false
set_option linter.unusedVariables false
namespace Go.Proofs.Ytnbbnedpjfanoaa
open Go.RowKit
section
variable {P : Program} {G : List Nat} {o : Oper} {st : St}

def sizeT (P : Program) (T : TypeId) : Option Nat := (P.info? T).map (·.size)
theorem run_sizeT {T n : Nat} (h : sizeT P T = some n) (w : World) : (sizeOf T).run P w = .ok n w := by
  unfold sizeT at h
  cases hi : P.info? T with
  | none => rw [hi] at h; cases h
  | some i =>
    rw [hi] at h; injection h with h
    simp [sizeOf, typeInfo, hi, Sem.run_bind, Sem.run_pure, program, Sem.run, h]
def aggT (P : Program) (T : TypeId) : Option Bool :=
  match P.underlying T with
  | some (.struct _) => some true
  | some (.array _ _) => some true
  | some _ => some false
  | none => none
theorem run_aggT {T : TypeId} {b : Bool} (h : aggT P T = some b) (w : World) : (isAgg T).run P w = .ok b w := by
  unfold aggT at h
  cases hu : P.underlying T with
  | none => rw [hu] at h; cases h
  | some d =>
    rw [hu] at h
    cases d <;> (injection h with h; subst h; simp [isAgg, run_underlying hu, Sem.run_bind, Sem.run_pure])

/-! ### Indexes -/
theorem eAt_map {α : Type} [Inhabited α] (f : α → List V) {l : List α} {i : Nat} (h : i < l.length) : eAt (l.map f) i = f (l.getD i default) := by
  unfold eAt
  rw [List.getD_eq_getElem?_getD, List.getElem?_map, List.getElem?_eq_getElem h, List.getD_eq_getElem?_getD, List.getElem?_eq_getElem h]
  rfl
theorem run_index_slice {T e s : Nat} (hT : P.underlying T = some (.slice e)) (hs : sizeT P e = some s) (b off len c n : Nat) (k : IntKind) (hn : n < len) (w : World) :
    (Instr.indexAt T (.slice (some ⟨b, off, none⟩) len c) (.int k n)).run P w = .ok (.pointer (some ⟨b, off + n * s, none⟩)) w := by
  simp [Instr.indexAt, asIntOf, run_underlying hT, run_sizeT hs, Sem.run_bind, hn, add_addr]
theorem q_index_ro {T e s n : Nat} {x y : Operand} {l : List (List V)} {k : IntKind} {m : Int} {cs : List V} (ho : o.op = .indexAddr T x y) (hx : opE st.env x = some (.ro l)) (hy : opE st.env y = some (.lit (.int k m)))
    (hm : m = (n : Int)) (hn : n < l.length) (hT : P.underlying T = some (.slice e)) (hs : sizeT P e = some s) (hl : cs.length = s) (he : eAt l n = cs) : QStep P G o st (.rp cs) :=
  q_of_run fun F base w0 ρ a w hH hE => by
    subst he hm
    have h := opE_sound hE hx
    generalize hu : a.eval x = u at h
    cases h with
    | pure h => cases h with
      | ro l A c s' b off us hc hmx hp hA hsz hcell hrel =>
        obtain ⟨hA1, hA2⟩ := hA (by omega)
        have hs' : s' = s := by rw [← hl, hsz n hn]
        subst hs'
        refine ⟨.pointer (some ⟨b, off + n * s', none⟩), .rp (fun j => us n j) (fun _ => hA2) (fun j hj => hcell n j hn (by omega)) (fun j hj => hrel n j hn (by omega)), fun w' => ?_⟩
        unfold execOp; rw [ho]; simp only []; rw [hu, lit_inv (opE_sound hE hy), hA1]
        simp only [Sem.run_bind, run_index_slice hT hs _ _ _ _ _ _ hn]; rfl
theorem q_index_row {T e s n id e' : Nat} {x y : Operand} {l : List (List V)} {k : IntKind} {m : Int} (ho : o.op = .indexAddr T x y) (hx : opE st.env x = some (.own id)) (hh : getH st.heap id = some (.row e' s l)) (hy : opE st.env y = some (.lit (.int k m)))
    (hm : m = (n : Int)) (hn : n < l.length) (hT : P.underlying T = some (.slice e)) (hs : sizeT P e = some s) : QStep P G o st (.ptr id n s 0) :=
  q_of_run fun F base w0 ρ a w hH hE => by
    subst hm
    have h := own_inv (opE_sound hE hx)
    obtain ⟨_, v, xs, h1, ⟨h2, _⟩, _⟩ := hH.blk _ _ hh
    rw [h] at h1; injection h1 with h1
    rcases h2.2 with ⟨_, h0⟩ | ⟨g, cap, cur, hv, _⟩
    · omega
    · rw [hv] at h1
      refine ⟨.pointer (some ⟨g, n * s + 0, none⟩), .ptr (b := g) h (by rw [h1]; rfl), fun w' => ?_⟩
      unfold execOp; rw [ho]; simp only []; rw [h1, lit_inv (opE_sound hE hy)]
      simp only [Sem.run_bind, run_index_slice hT hs _ _ _ _ _ _ hn, Nat.zero_add, Nat.add_zero]; rfl
theorem run_index_array {T e s N : Nat} (hT : P.underlying T = some (.array N e)) (hs : sizeT P e = some s) (b off n : Nat) (k : IntKind) (hn : n < N) (w : World) :
    (Instr.indexAt T (.pointer (some ⟨b, off, none⟩)) (.int k n)).run P w = .ok (.pointer (some ⟨b, off + n * s, none⟩)) w := by
  simp [Instr.indexAt, asIntOf, Instr.sureAddr, run_underlying hT, run_sizeT hs, Sem.run_bind, hn, add_addr]
theorem q_index_arr {T e s n N id i z j : Nat} {x y : Operand} {k : IntKind} {m : Int} (ho : o.op = .indexAddr T x y) (hx : opE st.env x = some (.ptr id i z j)) (hy : opE st.env y = some (.lit (.int k m)))
    (hm : m = (n : Int)) (hT : P.underlying T = some (.array N e)) (hn : n < N) (hs : sizeT P e = some s) : QStep P G o st (.ptr id i z (j + n * s)) :=
  q_of_run fun F base w0 ρ a w hH hE => by
    subst hm
    obtain ⟨r, b, h1, h2, h3⟩ := ptr_inv (opE_sound hE hx)
    refine ⟨_, .ptr h1 h2, fun w' => ?_⟩
    unfold execOp; rw [ho]; simp only []; rw [h3, lit_inv (opE_sound hE hy)]
    simp only [Sem.run_bind, run_index_array hT hs _ _ _ _ hn, Nat.add_assoc]; rfl
/-- a byte of a string -/
theorem q_index_str {T n : Nat} {x y : Operand} {s : ByteArray} {k : IntKind} {m : Int} (ho : o.op = .index T x y) (hx : opE st.env x = some (.lit (.string s))) (hy : opE st.env y = some (.lit (.int k m)))
    (hm : m = (n : Int)) (hn : n < s.size) (hT : P.underlying T = some .string) : QStep P G o st (.lit (.int .u8 ((s.data.toList.getD n 0).toNat : Int))) :=
  q_of_run fun F base w0 ρ a w hH hE => by
    subst hm
    refine ⟨_, .pure (.lit _ rfl), fun w' => ?_⟩
    unfold execOp; rw [ho]; simp only []; rw [lit_inv (opE_sound hE hx), lit_inv (opE_sound hE hy)]
    have e : s[n]? = some (s.data.toList.getD n 0) := by
      have h2 : s[n]? = some (s[n]'hn) := getElem?_pos s n hn
      rw [h2, List.getD_eq_getElem?_getD, List.getElem?_eq_getElem (by simpa using hn), Option.getD_some]
      rfl
    simp [Instr.index, asIntOf, run_underlying hT, Sem.run_bind, Sem.run_pure, e]

/-! ### Loads -/
theorem run_load_one {T : TypeId} (hT : aggT P T = some false) {b off : Nat} {u : Value} {w : World} (h : w.cell? ⟨b, off, none⟩ = some u) : (Instr.loadAt T (.pointer (some ⟨b, off, none⟩))).run P w = .ok u w := by
  simp [Instr.loadAt, Instr.sureAddr, loadVar, run_aggT hT, Sem.run_bind, load, Sem.run, h]
theorem run_load_agg {T : TypeId} {n : Nat} (hT : aggT P T = some true) (hn : sizeT P T = some n) {b off : Nat} {us : Array Value} {w : World} (hu : us.size = n) (h : ∀ j, j < n → w.cell? ⟨b, off + j, none⟩ = some (us.getD j undef)) :
    (Instr.loadAt T (.pointer (some ⟨b, off, none⟩))).run P w = .ok (.agg us) w := by
  have hl := run_loadCells_list (P := P) (w := w) ⟨b, off, none⟩ us.toList (fun j v hj => by
    rw [add_addr]
    have hlt : j < us.toList.length := (List.getElem?_eq_some_iff.1 hj).1
    rw [h j (by simp at hlt; omega), ← hj]
    simp at hlt
    simp [hlt])
  simp only [Array.length_toList, hu] at hl
  simp [Instr.loadAt, Instr.sureAddr, loadVar, run_aggT hT, run_sizeT hn, Sem.run_bind, hl]

/-- the cells behind an address: related ones, which stand in every world that has turned in G alone -/
def Reads (G : List Nat) (st : St) (v : V) (cs : List V) : Prop :=
  ∀ F base w0 ρ w u, HRel0 F base ρ st.heap st.next w0 w → liveG st.heap G = true → VRel ρ (Stab F ρ st.heap) w v u →
    ∃ (b off : Nat) (us : Nat → Value), u = .pointer (some ⟨b, off, none⟩) ∧ (∀ j, j < cs.length → VRel ρ (Stab F ρ st.heap) w (cAt cs j) (us j)) ∧ ∀ w', Ext (GB ρ G) w w' → ∀ j, j < cs.length → w'.cell? ⟨b, off + j, none⟩ = some (us j)

theorem q_load_one {T : TypeId} {x : Operand} {v u : V} {cs : List V} (ho : o.op = .load T x) (hx : opE st.env x = some v) (hT : aggT P T = some false) (hr : Reads G st v cs) (hc : cs[0]? = some u) : QStep P G o st u :=
  fun F base w0 ρ a w hH hE hG => by
    obtain ⟨b, off, us, h1, h2, h3⟩ := hr F base w0 ρ w _ hH hG (opE_sound hE hx)
    have hlt : 0 < cs.length := (List.getElem?_eq_some_iff.1 hc).1
    have e : cAt cs 0 = u := by unfold cAt; rw [List.getD_eq_getElem?_getD, hc]; rfl
    refine ⟨us 0, by rw [← e]; exact h2 0 hlt, fun w' hw' => ?_⟩
    unfold execOp; rw [ho]; simp only []; rw [h1]
    have := h3 w' hw' 0 hlt
    simp only [Nat.add_zero] at this
    simp only [Sem.run_bind, run_load_one hT this]; rfl
theorem q_load_agg {T : TypeId} {n : Nat} {x : Operand} {v : V} {cs : List V} (ho : o.op = .load T x) (hx : opE st.env x = some v) (hT : aggT P T = some true) (hn : sizeT P T = some n) (hr : Reads G st v cs) (hc : n ≤ cs.length) : QStep P G o st (.agg (cs.take n)) :=
  fun F base w0 ρ a w hH hE hG => by
    obtain ⟨b, off, us, h1, h2, h3⟩ := hr F base w0 ρ w _ hH hG (opE_sound hE hx)
    refine ⟨.agg ((Array.range n).map us), .agg (by simp; omega) (fun j hj => ?_), fun w' hw' => ?_⟩
    · simp only [List.length_take] at hj
      have e1 : cAt (cs.take n) j = cAt cs j := by unfold cAt; rw [List.getD_eq_getElem?_getD, List.getD_eq_getElem?_getD, List.getElem?_take, if_pos (by omega)]
      have e2 : ((Array.range n).map us).getD j undef = us j := by simp [show j < n by omega]
      rw [e1, e2]
      exact h2 j (by omega)
    · unfold execOp; rw [ho]; simp only []; rw [h1]
      have := run_load_agg (P := P) (T := T) (n := n) hT hn (b := b) (off := off) (us := (Array.range n).map us) (w := w') (by simp) (fun j hj => by
        rw [h3 w' hw' j (by omega)]; simp [hj])
      simp only [Sem.run_bind, this]; rfl

theorem stab_notGB {F : Nat → Prop} {ρ : Nat → Option Value} {heap : List (Nat × Option Blk)} {G : List Nat} (hG : liveG heap G = true) {b : Nat} (h : Stab F ρ heap b) : ¬ GB ρ G b := by
  rintro ⟨id, u, hm, hu, hb⟩
  obtain ⟨B, hB, ho⟩ := liveG_spec hG id hm
  exact h.2 id B u hB ho hu hb
theorem Ext.cell {B : Nat → Prop} {w w' : World} (h : Ext B w w') {b o : Nat} {u : Value} (hB : ¬ B b) (hc : w.cell? ⟨b, o, none⟩ = some u) : w'.cell? ⟨b, o, none⟩ = some u := by
  have := h.block b (cell_lt hc) hB
  rw [← hc]; simp [World.cell?, this]
theorem reads_rp {cs : List V} : Reads G st (.rp cs) cs :=
  fun F base w0 ρ w u hH hG hv => by
    obtain ⟨b, off, us, h1, h2, h3, h4⟩ := rp_inv hv
    exact ⟨b, off, us, h1, fun j hj => .pure (h4 j hj), fun w' hw' j hj => hw'.cell (stab_notGB hG (h2 (by omega))) (h3 j hj)⟩
def notIn (id : Nat) : List Nat → Bool
  | [] => true
  | x :: r => bif Nat.beq x id then false else notIn id r
theorem notIn_spec {id : Nat} : ∀ {G : List Nat}, notIn id G = true → id ∉ G
  | [], _ => by simp
  | x :: r, h => by
    simp only [notIn] at h
    cases hb : Nat.beq x id with
    | true => rw [hb] at h; cases h
    | false =>
      rw [hb] at h
      simp only [List.mem_cons, not_or]
      exact ⟨fun e => by rw [e] at hb; simp at hb, notIn_spec h⟩
theorem own_notGB {F : Nat → Prop} {base : Nat → Prop} {ρ : Nat → Option Value} {heap : List (Nat × Option Blk)} {next : Nat} {w0 w : World} (hH : HRel0 F base ρ heap next w0 w) {G : List Nat} (hG : liveG heap G = true) {id b : Nat} {B : Blk} {u : Value}
    (hid : notIn id G = true) (hB : getH heap id = some B) (ho : B.owns = true) (hu : ρ id = some u) (hb : blockOf u = some b) : ¬ GB ρ G b := by
  rintro ⟨i, v, hm, hv, hvb⟩
  obtain ⟨B', hB', ho'⟩ := liveG_spec hG i hm
  exact notIn_spec hid (hH.inj i id B' B v u b hB' hB ho' ho hv hu hvb hb ▸ hm)
theorem reads_box {id j t s : Nat} {cs : List V} (hh : getH st.heap id = some (.box t cs)) (hg : notIn id G = true) : Reads G st (.ptr id 0 s j) (cs.drop j) :=
  fun F base w0 ρ w u hH hG hv => by
    obtain ⟨r, b, h1, h2, h3⟩ := ptr_inv hv
    obtain ⟨b', us, e1, e2, e3, e4, e5⟩ := hH.blk _ _ hh
    rw [h1] at e1; injection e1 with e1; subst e1
    simp only [blockOf, Option.some.injEq] at h2
    subst h2
    refine ⟨b', j, fun i => us.getD (j + i) undef, by rw [h3]; simp, fun i hi => ?_, fun w' hw' i hi => ?_⟩
    · rw [cAt_drop]; simp only [List.length_drop] at hi; exact (e5 (j + i) (by omega)).1
    · simp only [List.length_drop] at hi
      refine hw'.cell (own_notGB hH hG hg hh rfl h1 rfl) ?_
      unfold World.cell?
      simp only [e3, Option.isSome_none, Bool.false_eq_true, if_false]
      rw [Array.getElem?_eq_getElem (by omega)]
      congr 1
      simp [show j + i < us.size by omega]
theorem row_cell {w : World} {base e s n i j : Nat} {v : Value} {xs : List Value} {g : Nat} {u : Value} (h : w.ownsRow base e s v n xs) (hb : blockOf v = some g) (hu : xs[i * s + j]? = some u) : w.cell? ⟨g, i * s + j, none⟩ = some u := by
  have := h.cells (g := g) (by rcases h.2 with ⟨rfl, _⟩ | ⟨g', _, _, rfl, _⟩ <;> simp_all [blockOf, Value.ownBlock]) _ _ hu
  rwa [add_addr, Nat.zero_add] at this
theorem reads_row {id i j e s : Nat} {l : List (List V)} {cs : List V} (hh : getH st.heap id = some (.row e s l)) (hi : i < l.length) (hg : notIn id G = true) (he : eAt l i = cs) : Reads G st (.ptr id i s j) (cs.drop j) :=
  fun F base w0 ρ w u hH hG hv => by
    subst he
    obtain ⟨r, b, h1, h2, h3⟩ := ptr_inv hv
    obtain ⟨e0, v, xs, e1, ⟨e2, _⟩, e3, e4⟩ := hH.blk _ _ hh
    rw [h1] at e1; injection e1 with e1; subst e1
    have hlen : (eAt l i).length = s := e3 i hi
    refine ⟨b, i * s + j, fun k => xs.getD (i * s + j + k) undef, h3, fun k hk => ?_, fun w' hw' k hk => ?_⟩
    · rw [cAt_drop]; simp only [List.length_drop] at hk
      obtain ⟨u, hu, hp, _⟩ := e4 i (j + k) hi (by omega)
      have : xs.getD (i * s + j + k) undef = u := by rw [List.getD_eq_getElem?_getD, Nat.add_assoc, hu]; rfl
      show VRel _ _ _ _ (xs.getD (i * s + j + k) undef)
      rw [this]; exact .pure hp
    · simp only [List.length_drop] at hk
      obtain ⟨u, hu, hp, _⟩ := e4 i (j + k) hi (by omega)
      have e : xs.getD (i * s + j + k) undef = u := by rw [List.getD_eq_getElem?_getD, Nat.add_assoc, hu]; rfl
      show _ = some (xs.getD (i * s + j + k) undef)
      rw [e]
      refine hw'.cell (own_notGB hH hG hg hh rfl h1 h2) ?_
      rw [Nat.add_assoc]
      exact row_cell e2 h2 hu
theorem reads_fro {id i j s : Nat} {l : List (List V)} {cs : List V} (hh : getH st.heap id = some (.fro l)) (hi : i < l.length) (he : eAt l i = cs) (hs : cs.length = s) : Reads G st (.ptr id i s j) (cs.drop j) :=
  fun F base w0 ρ w u hH hG hv => by
    subst he
    obtain ⟨r, b, h1, h2, h3⟩ := ptr_inv hv
    obtain ⟨v, e1, e2, e3⟩ := hH.blk _ _ hh
    rw [h1] at e1; injection e1 with e1; subst e1
    generalize hl : V.ro l = lv at e2
    cases e2 with
    | lit => cases hl
    | ro l' A c s' b' off us hc hmx hp hA hsz hcell hrel =>
      injection hl with hl; subst hl
      obtain ⟨hA1, hA2⟩ := hA (by omega)
      subst hA1
      simp only [blockOf, Option.some.injEq] at h2
      subst h2
      have h0 : off = 0 := e3 _ _ _ rfl
      subst h0
      have hs' : s' = s := by rw [← hs, hsz i hi]
      subst hs'
      refine ⟨b', i * s' + j, fun k => us i (j + k), h3, fun k hk => ?_, fun w' hw' k hk => ?_⟩
      · rw [cAt_drop]; simp only [List.length_drop] at hk
        exact .pure (hrel i (j + k) hi (by omega))
      · simp only [List.length_drop] at hk
        have := hcell i (j + k) hi (by omega)
        rw [Nat.zero_add, ← Nat.add_assoc] at this
        exact hw'.cell (stab_notGB hG hA2) this
end
end Go.Proofs.Ytnbbnedpjfanoaa
