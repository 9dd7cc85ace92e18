/-
  A VALUE CALCULUS OVER THE MODEL, part 11: the steps of a region that draws its order. Plain lemmas, over any program.
-/
import Derived.Test.YtnbbnedpjfanoaaAbs10
set_option linter.unusedVariables false
set_option linter.unusedSimpArgs false
set_option linter.unusedVariables false
namespace Go.Proofs.Ytnbbnedpjfanoaa
open Go.RowKit
section
variable {P : Program} {N nt b0 k k' n0 : Nat} {ops : List Oper} {W : Nat → Nat → Bool} {o : Oper} {rest : List Oper} {env : List (Nat × V)} {heap : List (Nat × Option Blk)} {Q : St → Prop}

def lk : List Nat → List (Nat × V) → List (Nat × V)
  | [], _ => []
  | t :: ts, env => match getE env t with
    | some v => (t, v) :: lk ts env
    | none => lk ts env
theorem lk_spec : ∀ {ts : List Nat} {env : List (Nat × V)} {t : Nat} {x : V}, getE (lk ts env) t = some x → t ∈ ts ∧ getE env t = some x
  | [], env, t, x, h => by simp [lk, getE] at h
  | s :: ts, env, t, x, h => by
    simp only [lk] at h
    split at h
    · rename_i v hv
      simp only [getE] at h
      cases hb : Nat.beq s t with
      | true =>
        rw [hb] at h
        simp only [cond_true, Option.some.injEq] at h
        have := Nat.eq_of_beq_eq_true hb
        subst this; subst h
        exact ⟨List.mem_cons_self, hv⟩
      | false =>
        rw [hb] at h
        have := lk_spec (ts := ts) h
        exact ⟨List.mem_cons_of_mem _ this.1, this.2⟩
    · have := lk_spec (ts := ts) h
      exact ⟨List.mem_cons_of_mem _ this.1, this.2⟩

def CovE (E env : List (Nat × V)) : Prop := ∀ t x, getE E t = some x → getE env t = some x
def CovH (E env : List (Nat × Option Blk)) : Prop := ∀ t x, getH E t = some x → getH env t = some x
theorem opE_mono {E env : List (Nat × V)} (h : CovE E env) {x : Operand} {v : V} (hx : opE E x = some v) : opE env x = some v := by
  cases x with
  | tmp t => exact h t v hx
  | const c => cases c <;> exact hx
  | _ => exact hx
mutual
theorem snapV_mono {E env : List (Nat × Option Blk)} (h : CovH E env) : ∀ (v : V) {v' : V}, snapV E v = some v' → snapV env v = some v'
  | .lit _, _, hv => hv
  | .ro _, _, hv => hv
  | .own id, v', hv => by
    simp only [snapV] at hv ⊢
    cases hB : getH E id with
    | none => rw [hB] at hv; cases hv
    | some B => rw [h id B hB]; rw [hB] at hv; exact hv
  | .ptr .., _, hv => hv
  | .rp _, _, hv => hv
  | .agg cs, v', hv => by
    simp only [snapV] at hv ⊢
    split at hv
    · rename_i cs' h1; rw [snapL_mono h cs h1]; exact hv
    · cases hv
  | .tup cs, v', hv => by
    simp only [snapV] at hv ⊢
    split at hv
    · rename_i cs' h1; rw [snapL_mono h cs h1]; exact hv
    · cases hv
  | .clo .., _, hv => hv
  | .any, _, hv => hv
  | .und, _, hv => hv
theorem snapL_mono {E env : List (Nat × Option Blk)} (h : CovH E env) : ∀ (cs : List V) {cs' : List V}, snapV.snapL E cs = some cs' → snapV.snapL env cs = some cs'
  | [], _, hv => hv
  | c :: cs, cs', hv => by
    simp only [snapV.snapL] at hv ⊢
    split at hv
    · rename_i c' cs'' h1 h2
      rw [snapV_mono h c h1, snapL_mono h cs h2]; exact hv
    · cases hv
end
theorem argsE_mono {E env : List (Nat × V)} (h : CovE E env) : ∀ {xs : List Operand} {vs : List V}, argsE E xs = some vs → argsE env xs = some vs
  | [], vs, hx => hx
  | x :: xs, vs, hx => by
    simp only [argsE] at hx ⊢
    split at hx
    · rename_i v vs' h1 h2
      rw [opE_mono h h1, argsE_mono h h2]; exact hx
    · cases hx
theorem guardV_mono {E env : List (Nat × V)} (h : CovE E env) {g : Option (Nat × Bool)} {b : Bool} (hg : guardV E ops g = some b) : guardV env ops g = some b := by
  cases g with
  | none => exact hg
  | some jb =>
    obtain ⟨j, w⟩ := jb
    simp only [guardV] at hg ⊢
    cases hj : ops[j]? with
    | none => rw [hj] at hg; cases hg
    | some oj =>
      simp only [hj] at hg ⊢
      cases hd : oj.dst with
      | none => simp only [hd] at hg; cases hg
      | some d =>
        simp only [hd] at hg ⊢
        cases he : getE E d with
        | none => simp only [he] at hg; cases hg
        | some v => rw [h d v he]; rw [he] at hg; exact hg

theorem fam_skip {kk : Nat} {E : List (Nat × V)} {Hn : List (Nat × Option Blk)} (hg : guardV E ops o.guard = some false) (hd : dstOk nt o.dst = true) : Fam P N nt kk ops o E Hn ⟨.und, []⟩ :=
  fun env heap hE hH F M w0 ρ a w h1 h2 hk => by
    unfold stepWp
    rw [if_neg (by rw [guardV_spec h2 (guardV_mono hE hg)]; exact Bool.false_ne_true)]
    refine ⟨ρ, h1, ?_, fun _ _ _ => rfl⟩
    have := ERel.putD (st := ⟨env, heap, N, nt⟩) h2 hd (v := .und) .und
    cases hd2 : o.dst with
    | none => rw [hd2] at this; exact this
    | some d => rw [hd2] at this; exact this
theorem putD_ok {ρ : Nat → Option Value} {S : Nat → Prop} {w : World} {a : Act} {env : List (Nat × V)} (h : ERel ρ S w nt env a) {d : Option Tmp} (hd : dstOk nt d = true) {v : V} {u : Value} (hv : VRel ρ S w v u) : ERel ρ S w nt (putE d v env) (a.put d u) := by
  cases d with
  | none => exact h
  | some d => exact h.put (Nat.le_of_ble_eq_true hd) hv
theorem fam_q {kk : Nat} {E : List (Nat × V)} {Hn : List (Nat × Option Blk)} {v : V} (hg : guardV E ops o.guard = some true) (hd : dstOk nt o.dst = true) (hq : QStep P [] o ⟨E, Hn, N, nt⟩ v) : Fam P N nt kk ops o E Hn ⟨v, []⟩ :=
  fun env heap hE hH F M w0 ρ a w h1 h2 hk => by
    unfold stepWp
    rw [if_pos (guardV_spec h2 (guardV_mono hE hg))]
    have hS : ∀ b, Stab (Stab F ρ heap) ρ Hn b ↔ Stab F ρ heap b := fun b => ⟨fun h => h.1, fun h => ⟨h, fun id B u hB ho hu => h.2 id B u (hH id B hB) ho hu⟩⟩
    have hS2 : Stab (Stab F ρ heap) ρ Hn = Stab F ρ heap := funext fun b => propext (hS b)
    have g1 : HRel0 (Stab F ρ heap) M ρ Hn N w0 w := ⟨h1.below, h1.hbase, h1.sup, fun id id' B B' u u' b hB hB' => h1.inj id id' B B' u u' b (hH _ _ hB) (hH _ _ hB'), fun id B hB => by rw [hS2]; exact h1.blk id B (hH _ _ hB)⟩
    have g2 : ERel ρ (Stab (Stab F ρ heap) ρ Hn) w nt E a := ⟨h2.size, h2.defers, fun t v hv => by rw [hS2]; exact h2.slot t v (hE t v hv)⟩
    obtain ⟨u, q1, q2⟩ := hq _ M w0 ρ a w g1 g2 rfl
    rw [hS2] at q1
    exact wp_of_value (q2 w (Ext.refl _ _)) ⟨ρ, h1, putD_ok h2 hd q1, fun _ _ _ => rfl⟩
theorem fam_at {kk : Nat} {E : List (Nat × V)} {Hn H : List (Nat × Option Blk)} {v : V} (hg : guardV E ops o.guard = some true) (hkN : kk < N)
    (hq : ∀ env heap, CovE E env → CovH Hn heap → GAt P kk o ⟨env, heap, N, nt⟩ ⟨putE o.dst v env, H ++ heap, N, nt⟩) : Fam P N nt kk ops o E Hn ⟨v, H⟩ :=
  fun env heap hE hH F M w0 ρ a w h1 h2 hk => by
    unfold stepWp
    rw [if_pos (guardV_spec h2 (guardV_mono hE hg))]
    refine upon_mono0 ?_ (hq env heap hE hH F M w0 ρ a w h1 h2 hk hkN)
    rintro a' w' ⟨ρ', q1, q2, q3, q4⟩
    exact ⟨ρ', q1, q2, fun id _ h => q4 id h⟩
theorem fam_g {kk : Nat} {E : List (Nat × V)} {Hn H : List (Nat × Option Blk)} {v : V} (hg : guardV E ops o.guard = some true)
    (hq : ∀ env heap, CovE E env → CovH Hn heap → GStep P N o ⟨env, heap, N, nt⟩ ⟨putE o.dst v env, H ++ heap, N, nt⟩) : Fam P N nt kk ops o E Hn ⟨v, H⟩ :=
  fun env heap hE hH F M w0 ρ a w h1 h2 hk => by
    unfold stepWp
    rw [if_pos (guardV_spec h2 (guardV_mono hE hg))]
    refine upon_mono0 ?_ (hq env heap hE hH F M w0 ρ a w h1 h2)
    rintro a' w' ⟨ρ', q1, q2, q3, q4⟩
    exact ⟨ρ', q1, q2, fun id h _ => q4 id h⟩

/-- what is left of a region that draws its order; k: the number that the next operation may take -/
def PL (P : Program) (nt b0 : Nat) (ops : List Oper) (W : Nat → Nat → Bool) (k : Nat) (rest : List Oper) (env : List (Nat × V)) (heap : List (Nat × Option Blk)) (Q : St → Prop) : Prop :=
  ∃ ss eF hF, b0 ≤ k ∧ k + rest.length = b0 + ops.length ∧ Plan P (b0 + ops.length) nt b0 ops W (k - b0) rest env heap ss eF hF ∧ Q ⟨eF, hF, b0 + ops.length, nt⟩
theorem p_nil (h : Q ⟨env, heap, k, nt⟩) (hk : Nat.beq k (b0 + ops.length) = true := by kernel_rfl) (hb : Nat.ble b0 k = true := by kernel_rfl) : PL P nt b0 ops W k [] env heap Q := by
  have e := Nat.eq_of_beq_eq_true hk
  refine ⟨[], env, heap, Nat.le_of_ble_eq_true hb, by simpa using e, .nil _ _ _, ?_⟩
  rw [← e]; exact h
theorem p_cons {s : Stp} (hs : ∀ N, b0 ≤ k → k < N → StepOK P N nt b0 ops W (k - b0) o env heap s) (h : PL P nt b0 ops W (k + 1) rest (putE o.dst s.v env) (s.H ++ heap) Q) (hb : Nat.ble b0 k = true) : PL P nt b0 ops W k (o :: rest) env heap Q := by
  obtain ⟨ss, eF, hF, h1, h2, h3, h4⟩ := h
  have hb := Nat.le_of_ble_eq_true hb
  refine ⟨s :: ss, eF, hF, hb, by simp only [List.length_cons]; omega, .cons (hs _ hb (by omega)) ?_, h4⟩
  rw [show k - b0 + 1 = k + 1 - b0 by omega]; exact h3
theorem r_draw {id : Nat} {st : St} {Q : Exit → St → Prop} {l : List Oper} (W : Nat → Nat → Bool) (h : PL P st.nt st.next l W st.next l st.env st.heap (Q .normal)) (hm : P.follows .mixedOrders = true := by kernel_rfl) (hok : okText l = true := by kernel_rfl) (hn0 : Nat.ble n0 st.next = true := by kernel_rfl) :
    Run P n0 (.region id l.toArray true) st Q := fun F base w0 ρ a w hH hE => by
  obtain ⟨ss, eF, hF, _, _, h3, h4⟩ := h
  rw [Nat.sub_self] at h3
  have hn0 := Nat.le_of_ble_eq_true hn0
  have hgd : ∀ i, (Array.replicate l.length false).getD i false = false := fun i => by
    rw [Array.getD_eq_getD_getElem?, Array.getElem?_replicate]
    split <;> rfl
  have e1 : envU (l.zip ss) 0 (fun i => (Array.replicate l.length false).getD i false) st.env = st.env := envU_false _ _ _ _ (fun j => hgd _)
  have e2 : heapU (l.zip ss) 0 (fun i => (Array.replicate l.length false).getD i false) st.heap = st.heap := heapU_false _ _ _ _ (fun j => hgd _)
  refine wp_mono (wp_region_any hm (Q := Post n0 F base w0 ρ (NQ fun s => s = ⟨eF, hF, st.next + l.length, st.nt⟩)) ?_) (fun e a w hp => ?_)
  · have hsame : Same (Stab F ρ st.heap) w { w with drawn := w.drawn + 1 } := fun b _ _ => rfl
    have hH' : HRel F base ρ st.heap (st.next + l.length) w0 { w with drawn := w.drawn + 1 } :=
      ⟨⟨⟨hH.below.os, hH.below.tape, hH.below.output, hH.below.size, hH.below.block⟩, hH.hbase, fun id u h => ⟨Nat.lt_of_lt_of_le (hH.sup id u h).1 (Nat.le_add_right _ _), (hH.sup id u h).2⟩, hH.inj,
        fun id B hB => (hH.blk id B hB).mono hsame (fun b h _ => h) (fun _ _ h => h) (fun _ _ _ _ _ _ => rfl)⟩, hH.hF⟩
    have hE' := hE.mono hsame (fun b h _ => h) (fun _ _ h => h)
    have := plan_sound (n0 := n0) hok h3 hn0 (F := F) (M := base) (w0 := w0) (ρ0 := ρ) l.length (List.range l.length) (Array.replicate l.length false) a { w with drawn := w.drawn + 1 } ρ (by simp) List.nodup_range
      (fun i => by rw [hgd]; simp) (by simp) (fun i j h => by rw [hgd] at h; cases h) (by rw [e2]; exact hH') (by rw [e1, e2]; exact hE') (fun _ _ => rfl)
      (fun i hi _ => by
        cases hρ : ρ (st.next + i) with
        | none => rfl
        | some u => have := (hH.sup _ _ hρ).1; omega)
    simpa using this
  · obtain ⟨ρ', s', ⟨rfl, rfl⟩, q1, q2, q3⟩ := hp
    exact ⟨ρ', _, h4, q1, q2, q3⟩

/-- with stores to what the region itself makes -/
theorem r_drawN {id : Nat} {st : St} {Q : Exit → St → Prop} {l : List Oper} (h : PL P st.nt st.next l (fun _ id => Nat.ble st.next id) st.next l st.env st.heap (Q .normal)) (hm : P.follows .mixedOrders = true := by kernel_rfl) (hok : okText l = true := by kernel_rfl) (hn0 : Nat.ble n0 st.next = true := by kernel_rfl) :
    Run P n0 (.region id l.toArray true) st Q := r_draw _ h hm hok hn0

/-! ### The steps -/
theorem inH_nil {id : Nat} (h : inH [] id = true) : False := by cases h
theorem ok_q {E : List (Nat × V)} {v : V} {i : Nat} {Hn : List (Nat × Option Blk)} (hE : E = lk (looks ops o) env) (hHn : ∀ id B, getH Hn id = some B → vis ops W b0 i id = true ∧ getH heap id = some B) (hg : guardV E ops o.guard = some true) (hd : dstOk nt o.dst = true) (hq : QStep P [] o ⟨E, Hn, N, nt⟩ v) :
    StepOK P N nt b0 ops W i o env heap ⟨v, []⟩ := ⟨E, Hn, fun t x h => lk_spec (by rw [← hE]; exact h), hHn, fun id h => (inH_nil h).elim, fam_q hg hd hq⟩
/-- a step that reads no memory of the call's own -/
theorem y_q {v : V} {d : Nat} (hg : guardV (lk (looks ops o) env) ops o.guard = some true) (hd : o.dst = some d) (hdn : Nat.blt d nt = true) (hb : Nat.ble b0 k = true) (hk : k + 1 = k') (hq : ∀ N, QStep P [] o ⟨lk (looks ops o) env, [], N, nt⟩ v)
    (h : PL P nt b0 ops W k' rest ((d, v) :: env) heap Q) : PL P nt b0 ops W k (o :: rest) env heap Q := by
  subst hk
  refine p_cons (s := ⟨v, []⟩) (fun N _ _ => ok_q (Hn := []) rfl (fun id B h => by cases h) hg (by rw [hd]; exact hdn) (hq N)) ?_ hb
  rw [hd]; exact h
/-- a step that reads what stands behind number id -/
theorem y_h {v : V} {d id : Nat} {B : Blk} (hg : guardV (lk (looks ops o) env) ops o.guard = some true) (hd : o.dst = some d) (hdn : Nat.blt d nt = true) (hb : Nat.ble b0 k = true) (hk : k + 1 = k') (hB : getH heap id = some B) (hv : vis ops W b0 (k - b0) id = true) (hq : ∀ N, QStep P [] o ⟨lk (looks ops o) env, [(id, some B)], N, nt⟩ v)
    (h : PL P nt b0 ops W k' rest ((d, v) :: env) heap Q) : PL P nt b0 ops W k (o :: rest) env heap Q := by
  subst hk
  refine p_cons (s := ⟨v, []⟩) (fun N _ _ => ok_q (Hn := [(id, some B)]) rfl (fun id' B' h' => ?_) hg (by rw [hd]; exact hdn) (hq N)) ?_ hb
  · rw [getH_new] at h'
    split at h'
    · rename_i e; subst e; injection h' with h'; subst h'; exact ⟨hv, hB⟩
    · cases h'
  · rw [hd]; exact h
theorem p_skip {d : Nat} (hg : guardV (lk (looks ops o) env) ops o.guard = some false := by rfl) (hd : o.dst = some d := by rfl) (hdn : Nat.blt d nt = true := by rfl) (hk : k + 1 = k' := by (simp only [Nat.reduceAdd]; rfl)) (hb : Nat.ble b0 k = true := by rfl)
    (h : PL P nt b0 ops W k' rest ((d, .und) :: env) heap Q) : PL P nt b0 ops W k (o :: rest) env heap Q := by
  subst hk
  refine p_cons (s := ⟨.und, []⟩) (fun N _ _ => ⟨lk (looks ops o) env, [], fun t x h => lk_spec h, fun id B h => (by cases h), fun id h => (inH_nil h).elim, fam_skip hg (by rw [hd]; exact hdn)⟩) ?_ hb
  rw [hd]; exact h
/-- a store that is left out -/
theorem p_skip0 (hg : guardV (lk (looks ops o) env) ops o.guard = some false := by rfl) (hd : o.dst = none := by rfl) (hk : k + 1 = k' := by (simp only [Nat.reduceAdd]; rfl)) (hb : Nat.ble b0 k = true := by rfl)
    (h : PL P nt b0 ops W k' rest env heap Q) : PL P nt b0 ops W k (o :: rest) env heap Q := by
  subst hk
  refine p_cons (s := ⟨.und, []⟩) (fun N _ _ => ⟨lk (looks ops o) env, [], fun t x h => lk_spec h, fun id B h => (by cases h), fun id h => (inH_nil h).elim, fam_skip hg (by rw [hd]; rfl)⟩) ?_ hb
  rw [hd]; exact h
theorem p_q {v u : V} {d : Nat} (hq : stepV P [] ⟨lk (looks ops o) env, [], 0, nt⟩ o.op = some v := by rfl) (hg : guardV (lk (looks ops o) env) ops o.guard = some true := by rfl) (hN : NormV v u := by first | (apply NormV.agg; repeat' first | exact Norm.nil | apply Norm.cons) | (apply NormV.rp; repeat' first | exact Norm.nil | apply Norm.cons) | exact NormV.same)
    (hd : o.dst = some d := by rfl) (hdn : Nat.blt d nt = true := by rfl) (hk : k + 1 = k' := by (simp only [Nat.reduceAdd]; rfl)) (hb : Nat.ble b0 k = true := by rfl) (h : PL P nt b0 ops W k' rest ((d, u) :: env) heap Q) : PL P nt b0 ops W k (o :: rest) env heap Q :=
  y_q hg hd hdn hb hk (fun N => by rw [← hN.eq]; exact stepV_spec (st := ⟨lk (looks ops o) env, [], N, nt⟩) (by exact hq)) h
/-- what an operation reads of the call's own -/
def readId (env : List (Nat × V)) (op : Op) : Option Nat :=
  let of (x : Operand) : Option Nat := match opE env x with
    | some (.ptr id _ _ _) => some id
    | some (.own id) => some id
    | _ => none
  match op with
  | .load _ x => of x
  | .indexAddr _ x _ => of x
  | .call { callee := .builtin .len, args := ⟨[x]⟩, argTypes := _ } => of x
  | _ => none
theorem p_qh {v u : V} {d id : Nat} {B : Blk} (hid : readId (lk (looks ops o) env) o.op = some id := by rfl) (hB : getH heap id = some B := by rfl) (hq : stepV P [] ⟨lk (looks ops o) env, [(id, some B)], 0, nt⟩ o.op = some v := by rfl) (hg : guardV (lk (looks ops o) env) ops o.guard = some true := by rfl) (hN : NormV v u := by first | (apply NormV.agg; repeat' first | exact Norm.nil | apply Norm.cons) | (apply NormV.rp; repeat' first | exact Norm.nil | apply Norm.cons) | exact NormV.same)
    (hd : o.dst = some d := by rfl) (hdn : Nat.blt d nt = true := by rfl) (hk : k + 1 = k' := by (simp only [Nat.reduceAdd]; rfl)) (hb : Nat.ble b0 k = true := by rfl) (hv : vis ops W b0 (k - b0) id = true := by kernel_rfl) (h : PL P nt b0 ops W k' rest ((d, u) :: env) heap Q) : PL P nt b0 ops W k (o :: rest) env heap Q :=
  y_h hg hd hdn hb hk hB hv (fun N => by rw [← hN.eq]; exact stepV_spec (st := ⟨lk (looks ops o) env, [(id, some B)], N, nt⟩) (by exact hq)) h
theorem p_cmp {p : Prop} {d : Nat} (hq : cmpV (lk (looks ops o) env) o.op = some p := by rfl) (hg : guardV (lk (looks ops o) env) ops o.guard = some true := by rfl) (hd : o.dst = some d := by rfl) (hdn : Nat.blt d nt = true := by rfl) (hk : k + 1 = k' := by (simp only [Nat.reduceAdd]; rfl)) (hb : Nat.ble b0 k = true := by rfl)
    (ht : p → PL P nt b0 ops W k' rest ((d, .lit (.bool true)) :: env) heap Q) (hf : ¬ p → PL P nt b0 ops W k' rest ((d, .lit (.bool false)) :: env) heap Q) : PL P nt b0 ops W k (o :: rest) env heap Q := by
  by_cases hp : p
  · exact y_q hg hd hdn hb hk (fun N => (cmpV_spec (st := ⟨lk (looks ops o) env, [], N, nt⟩) hq).1 hp) (ht hp)
  · exact y_q hg hd hdn hb hk (fun N => (cmpV_spec (st := ⟨lk (looks ops o) env, [], N, nt⟩) hq).2 hp) (hf hp)
theorem p_nw {kd : IntKind} {r : Int} {d : Nat} (hq : rawV (lk (looks ops o) env) P o.op = some (kd, r) := by rfl) (hg : guardV (lk (looks ops o) env) ops o.guard = some true := by rfl) (hr : kd.wrap r = r := by first | (rw [IntKind.wrap_i64]; omega) | (rw [IntKind.wrap_u64]; omega) | (rw [IntKind.wrap_u8]; omega))
    (hd : o.dst = some d := by rfl) (hdn : Nat.blt d nt = true := by rfl) (hk : k + 1 = k' := by (simp only [Nat.reduceAdd]; rfl)) (hb : Nat.ble b0 k = true := by rfl) (h : PL P nt b0 ops W k' rest ((d, .lit (.int kd r)) :: env) heap Q) : PL P nt b0 ops W k (o :: rest) env heap Q :=
  y_q hg hd hdn hb hk (fun N => by have := rawV_spec (st := ⟨lk (looks ops o) env, [], N, nt⟩) (P := P) (G := []) hq; rw [hr] at this; exact this) h
theorem p_len {x : Operand} {t e : TypeId} {l : List (List V)} {n d : Nat} (ho : o.op = .call { callee := .builtin .len, args := #[x], argTypes := #[t] } := by rfl) (hx : opE (lk (looks ops o) env) x = some (.ro l) := by rfl)
    (ht : P.underlying t = some (.slice e) := by rfl) (hn : l.length = n := by first | exact List.length_map _ | (simp only [List.length_map, List.length_append, List.length_cons, List.length_nil, List.length_set]; rfl) | rfl)
    (hg : guardV (lk (looks ops o) env) ops o.guard = some true := by rfl) (hd : o.dst = some d := by rfl) (hdn : Nat.blt d nt = true := by rfl) (hk : k + 1 = k' := by (simp only [Nat.reduceAdd]; rfl)) (hb : Nat.ble b0 k = true := by rfl) (h : PL P nt b0 ops W k' rest ((d, .lit (.int .i64 n)) :: env) heap Q) : PL P nt b0 ops W k (o :: rest) env heap Q := by
  subst hn
  refine y_q hg hd hdn hb hk (fun N => lenV_spec (P := P) ho hx ?_) h
  unfold lenV
  rw [ht]
theorem p_i {v u : V} {d : Nat} (hg : guardV (lk (looks ops o) env) ops o.guard = some true := by rfl) (hd : o.dst = some d := by rfl) (hdn : Nat.blt d nt = true := by rfl) (hk : k + 1 = k' := by (simp only [Nat.reduceAdd]; rfl)) (hb : Nat.ble b0 k = true := by rfl)
    (hq : ∀ N, QStep P [] o ⟨lk (looks ops o) env, [], N, nt⟩ v := by
      intro N
      first
        | exact q_index_ro rfl rfl rfl (by first | exact lit0 | exact lit1 | exact lit2 | exact lit3 | rfl | exact castp (by omega) | exact casts (by omega) | exact (Int.toNat_of_nonneg (by omega)).symm) (by first | omega | (simp only [List.length_map]; omega)) rfl rfl rfl (eAt_map _ (by omega))
        | exact q_shl rfl rfl rfl (by omega)
        | exact q_shr rfl rfl rfl (by omega)
        | exact q_quo rfl rfl rfl (by omega)
        | exact q_rem rfl rfl rfl (by omega)
        | exact q_index_str rfl rfl rfl rfl (by omega) rfl
        | exact q_index_arr rfl rfl rfl rfl rfl (by omega) rfl
        | exact q_str_add rfl rfl rfl (by omega))
    (hN : NormV v u := by first | (apply NormV.agg; repeat' first | exact Norm.nil | apply Norm.cons) | (apply NormV.rp; repeat' first | exact Norm.nil | apply Norm.cons) | exact NormV.same)
    (h : PL P nt b0 ops W k' rest ((d, u) :: env) heap Q) : PL P nt b0 ops W k (o :: rest) env heap Q := y_q hg hd hdn hb hk (fun N => by rw [← hN.eq]; exact hq N) h
theorem p_ih {v u : V} {d id : Nat} {B : Blk} (hid : readId (lk (looks ops o) env) o.op = some id := by rfl) (hB : getH heap id = some B := by rfl) (hg : guardV (lk (looks ops o) env) ops o.guard = some true := by rfl) (hd : o.dst = some d := by rfl) (hdn : Nat.blt d nt = true := by rfl) (hk : k + 1 = k' := by (simp only [Nat.reduceAdd]; rfl)) (hb : Nat.ble b0 k = true := by rfl) (hv : vis ops W b0 (k - b0) id = true := by kernel_rfl)
    (hq : ∀ N, QStep P [] o ⟨lk (looks ops o) env, [(id, some B)], N, nt⟩ v := by
      intro N
      first
        | exact q_index_row rfl rfl rfl rfl (by first | exact lit0 | exact lit1 | exact lit2 | exact lit3 | rfl | exact castp (by omega) | exact casts (by omega) | exact (Int.toNat_of_nonneg (by omega)).symm) (by first | omega | (simp only [List.length_map, List.length_append, List.length_cons, List.length_nil]; omega)) rfl rfl
        | exact q_load_one rfl rfl rfl (reads_row rfl (by first | omega | (simp only [List.length_map]; omega)) rfl (eAt_map _ (by omega))) rfl
        | exact q_load_agg rfl rfl rfl rfl (reads_row rfl (by first | omega | (simp only [List.length_map]; omega)) rfl (eAt_map _ (by omega))) (Nat.le_of_ble_eq_true rfl))
    (hN : NormV v u := by first | (apply NormV.agg; repeat' first | exact Norm.nil | apply Norm.cons) | (apply NormV.rp; repeat' first | exact Norm.nil | apply Norm.cons) | exact NormV.same)
    (h : PL P nt b0 ops W k' rest ((d, u) :: env) heap Q) : PL P nt b0 ops W k (o :: rest) env heap Q := y_h hg hd hdn hb hk hB hv (fun N => by rw [← hN.eq]; exact hq N) h

/-! ### Calls, new memory, stores -/
theorem p_call {f : FuncId} {xs : Array Operand} {ts : Array TypeId} {vs vs' : List V} {r : V} {d : Nat} (hf : Fn P f vs' r) (ho : o.op = .call { callee := .value (.func f), args := xs, argTypes := ts } := by rfl) (hg : guardV (lk (looks ops o) env) ops o.guard = some true := by rfl) (hd : o.dst = some d := by rfl) (hdn : Nat.blt d nt = true := by rfl)
    (hx : argsE (lk (looks ops o) env) xs.toList = some vs := by rfl) (hbl : belowV.belowL 0 vs = true := by rfl) (hw : WkL vs vs' := by ((repeat' (first | exact WkL.nil | refine WkL.cons ?_ ?_ | exact Wk.refl _ | exact Wk.nil | refine Wk.agg ?_ | refine Wk.tup ?_)); first | done | fail "args")) (hk : k + 1 = k' := by (simp only [Nat.reduceAdd]; rfl)) (hb : Nat.ble b0 k = true := by rfl) (h : PL P nt b0 ops W k' rest ((d, r) :: env) heap Q) : PL P nt b0 ops W k (o :: rest) env heap Q := by
  subst hk
  refine p_cons (s := ⟨r, []⟩) (fun N _ _ => ⟨lk (looks ops o) env, [], fun t x h => lk_spec h, fun id B h => (by cases h), fun id h => (inH_nil h).elim, fam_g hg (fun env' heap' hE hH => ?_)⟩) ?_ hb
  · have := g_call (P := P) (n0 := N) (st := ⟨env', heap', N, nt⟩) ho (by rw [hd]; exact hdn) (argsE_mono hE hx) hbl (fn_weak hf hw)
    rw [hd] at this ⊢
    exact this
  · rw [hd]; exact h
theorem p_ask {f : FuncId} {xs : Array Operand} {ts : Array TypeId} {vs vs' : List V} {b : Bool} {d : Nat} (hf : Fn P f vs' (.lit (.bool b))) (ho : o.op = .call { callee := .value (.func f), args := xs, argTypes := ts } := by rfl) (hg : guardV (lk (looks ops o) env) ops o.guard = some true := by rfl) (hd : o.dst = some d := by rfl) (hdn : Nat.blt d nt = true := by rfl)
    (hx : argsE (lk (looks ops o) env) xs.toList = some vs := by rfl) (hbl : belowV.belowL 0 vs = true := by rfl) (hw : WkL vs vs' := by ((repeat' (first | exact WkL.nil | refine WkL.cons ?_ ?_ | exact Wk.refl _ | exact Wk.nil | refine Wk.agg ?_ | refine Wk.tup ?_)); first | done | fail "args")) (hk : k + 1 = k' := by (simp only [Nat.reduceAdd]; rfl)) (hb : Nat.ble b0 k = true := by rfl) (ht : b = true → PL P nt b0 ops W k' rest ((d, .lit (.bool true)) :: env) heap Q) (hff : b = false → PL P nt b0 ops W k' rest ((d, .lit (.bool false)) :: env) heap Q) : PL P nt b0 ops W k (o :: rest) env heap Q := by
  cases b
  · exact p_call hf ho hg hd hdn hx hbl hw hk hb (hff rfl)
  · exact p_call hf ho hg hd hdn hx hbl hw hk hb (ht rfl)
/-- a call that answers whether p -/
theorem p_dec {f : FuncId} {xs : Array Operand} {ts : Array TypeId} {vs vs' : List V} {p : Prop} [Decidable p] {d : Nat} (hf : Fn P f vs' (.lit (.bool (decide p)))) (ho : o.op = .call { callee := .value (.func f), args := xs, argTypes := ts } := by rfl) (hg : guardV (lk (looks ops o) env) ops o.guard = some true := by rfl) (hd : o.dst = some d := by rfl) (hdn : Nat.blt d nt = true := by rfl)
    (hx : argsE (lk (looks ops o) env) xs.toList = some vs := by rfl) (hbl : belowV.belowL 0 vs = true := by rfl) (hw : WkL vs vs' := by ((repeat' (first | exact WkL.nil | refine WkL.cons ?_ ?_ | exact Wk.refl _ | exact Wk.nil | refine Wk.agg ?_ | refine Wk.tup ?_)); first | done | fail "args")) (hk : k + 1 = k' := by (simp only [Nat.reduceAdd]; rfl)) (hb : Nat.ble b0 k = true := by rfl) (ht : p → PL P nt b0 ops W k' rest ((d, .lit (.bool true)) :: env) heap Q) (hff : ¬ p → PL P nt b0 ops W k' rest ((d, .lit (.bool false)) :: env) heap Q) : PL P nt b0 ops W k (o :: rest) env heap Q :=
  p_ask hf ho hg hd hdn hx hbl hw hk hb (fun h => ht (of_decide_eq_true h)) (fun h => hff (of_decide_eq_false h))
theorem s_dec {next : Nat} {f : FuncId} {xs : Array Operand} {ts : Array TypeId} {vs vs' : List V} {p : Prop} [Decidable p] {d : Nat} (hf : Fn P f vs' (.lit (.bool (decide p)))) (ho : o.op = .call { callee := .value (.func f), args := xs, argTypes := ts } := by rfl) (hg : guardV env ops o.guard = some true := by rfl) (hd : o.dst = some d := by rfl) (hdn : Nat.blt d nt = true := by rfl)
    (hx : argsE env xs.toList = some vs := by rfl) (hb : belowV.belowL 0 vs = true := by rfl) (hw : WkL vs vs' := by ((repeat' (first | exact WkL.nil | refine WkL.cons ?_ ?_ | exact Wk.refl _ | exact Wk.nil | refine Wk.agg ?_ | refine Wk.tup ?_)); first | done | fail "args")) (ht : p → RunL P n0 ops.toArray rest ⟨(d, .lit (.bool true)) :: env, heap, next, nt⟩ Q) (hff : ¬ p → RunL P n0 ops.toArray rest ⟨(d, .lit (.bool false)) :: env, heap, next, nt⟩ Q) : RunL P n0 ops.toArray (o :: rest) ⟨env, heap, next, nt⟩ Q :=
  s_ask hf ho hg hd hdn hx hb hw (fun h => ht (of_decide_eq_true h)) (fun h => hff (of_decide_eq_false h))
/-- handed to a callee: things of the call's own, one at most -/
theorem p_snap {f : FuncId} {xs : Array Operand} {ts : Array TypeId} {vs vs' : List V} {r : V} {d id : Nat} {B : Blk} (hf : Fn P f vs' r) (ho : o.op = .call { callee := .value (.func f), args := xs, argTypes := ts } := by rfl) (hg : guardV (lk (looks ops o) env) ops o.guard = some true := by rfl) (hd : o.dst = some d := by rfl) (hdn : Nat.blt d nt = true := by rfl)
    (hx : argsE (lk (looks ops o) env) xs.toList = some vs := by rfl) (hB : getH heap id = some B := by rfl) (hs : snapV.snapL [(id, some B)] vs = some vs' := by rfl) (hr : flatV r = true := by rfl) (hk : k + 1 = k' := by (simp only [Nat.reduceAdd]; rfl)) (hb : Nat.ble b0 k = true := by rfl) (hv : vis ops W b0 (k - b0) id = true := by kernel_rfl) (h : PL P nt b0 ops W k' rest ((d, r) :: env) heap Q) : PL P nt b0 ops W k (o :: rest) env heap Q := by
  subst hk
  refine p_cons (s := ⟨r, []⟩) (fun N _ _ => ⟨lk (looks ops o) env, [(id, some B)], fun t x h => lk_spec h, fun id' B' h' => ?_, fun id h => (inH_nil h).elim, fam_g hg (fun env' heap' hE hH => ?_)⟩) ?_ hb
  · rw [getH_new] at h'
    split at h'
    · rename_i e; subst e; injection h' with h'; subst h'; exact ⟨hv, hB⟩
    · cases h'
  · have := g_call_snap (P := P) (n0 := N) (st := ⟨env', heap', N, nt⟩) ho (by rw [hd]; exact hdn) (argsE_mono hE hx) (snapL_mono hH _ hs) hf hr
    rw [hd] at this ⊢
    exact this
  · rw [hd]; exact h
theorem inH_one {k id : Nat} {B : Option Blk} (h : inH [(k, B)] id = true) : id = k := by
  simp only [inH, Bool.or_false] at h
  exact (Nat.eq_of_beq_eq_true h).symm
theorem p_alloc {T : TypeId} {d : Nat} {cs ds : List V} (ho : o.op = .alloc T := by rfl) (hg : guardV (lk (looks ops o) env) ops o.guard = some true := by rfl) (hd : o.dst = some d := by rfl) (hdn : Nat.blt d nt = true := by rfl) (hz : zeroT P T = some cs := by rfl) (hN : Norm cs ds := by repeat' first | exact Norm.nil | apply Norm.cons) (hk : k + 1 = k' := by (simp only [Nat.reduceAdd]; rfl)) (hb : Nat.ble b0 k = true := by rfl)
    (h : PL P nt b0 ops W k' rest ((d, .ptr k 0 0 0) :: env) ((k, some (.box T ds)) :: heap) Q) : PL P nt b0 ops W k (o :: rest) env heap Q := by
  subst hk
  have e := hN.eq
  subst e
  refine p_cons (s := ⟨.ptr k 0 0 0, [(k, some (.box T cs))]⟩) (fun N h1 h2 => ⟨lk (looks ops o) env, [], fun t x h => lk_spec h, fun id B h => (by cases h), fun id h => .inl (by rw [inH_one h]; omega), ?_⟩) ?_ hb
  · rw [show b0 + (k - b0) = k by omega]
    refine fam_at hg h2 (fun env' heap' hE hH => ?_)
    have := a_alloc (P := P) (k := k) (st := ⟨env', heap', N, nt⟩) ho hd hdn hz
    rw [hd]
    exact this
  · rw [hd]; exact h
theorem p_box {T : TypeId} {d : Nat} {x : Operand} {v : V} {cs ds : List V} (ho : o.op = .box T x := by rfl) (hg : guardV (lk (looks ops o) env) ops o.guard = some true := by rfl) (hd : o.dst = some d := by rfl) (hdn : Nat.blt d nt = true := by rfl) (hx : opE (lk (looks ops o) env) x = some v := by rfl) (hf : flat v = some cs := by rfl) (hN : Norm cs ds := by repeat' first | exact Norm.nil | apply Norm.cons) (hk : k + 1 = k' := by (simp only [Nat.reduceAdd]; rfl)) (hb : Nat.ble b0 k = true := by rfl)
    (h : PL P nt b0 ops W k' rest ((d, .ptr k 0 0 0) :: env) ((k, some (.box T ds)) :: heap) Q) : PL P nt b0 ops W k (o :: rest) env heap Q := by
  subst hk
  have e := hN.eq
  subst e
  refine p_cons (s := ⟨.ptr k 0 0 0, [(k, some (.box T cs))]⟩) (fun N h1 h2 => ⟨lk (looks ops o) env, [], fun t x h => lk_spec h, fun id B h => (by cases h), fun id h => .inl (by rw [inH_one h]; omega), ?_⟩) ?_ hb
  · rw [show b0 + (k - b0) = k by omega]
    refine fam_at hg h2 (fun env' heap' hE hH => ?_)
    have := a_box (P := P) (k := k) (st := ⟨env', heap', N, nt⟩) ho hd hdn (opE_mono hE hx) hf
    rw [hd]
    exact this
  · rw [hd]; exact h
theorem p_store {T : TypeId} {x y : Operand} {id s j t : Nat} {cs vs ds : List V} {v : V} (ho : o.op = .store T x y := by rfl) (hg : guardV (lk (looks ops o) env) ops o.guard = some true := by rfl) (hd : o.dst = none := by rfl) (hx : opE (lk (looks ops o) env) x = some (.ptr id 0 s j) := by rfl) (hh : getH heap id = some (.box t cs) := by rfl) (hy : opE (lk (looks ops o) env) y = some v := by rfl)
    (hf : flat v = some vs := by rfl) (hT : sizeT P T = some vs.length := by rfl) (hl : Nat.ble (j + vs.length) cs.length = true := by rfl) (hN : Norm (setAt j vs cs) ds := by repeat' first | exact Norm.nil | apply Norm.cons) (hk : k + 1 = k' := by (simp only [Nat.reduceAdd]; rfl)) (hb : Nat.ble b0 k = true := by rfl) (hW : W (k - b0) id = true := by rfl) (hv : vis ops W b0 (k - b0) id = true := by kernel_rfl)
    (h : PL P nt b0 ops W k' rest env ((id, some (.box t ds)) :: heap) Q) : PL P nt b0 ops W k (o :: rest) env heap Q := by
  subst hk
  have e := hN.eq
  subst e
  refine p_cons (s := ⟨.und, [(id, some (.box t (setAt j vs cs)))]⟩) (fun N h1 h2 => ⟨lk (looks ops o) env, [(id, some (.box t cs))], fun t x h => lk_spec h, fun id' B' h' => ?_, fun id' h => .inr ?_, ?_⟩) ?_ hb
  · rw [getH_new] at h'
    split at h'
    · rename_i e; subst e; injection h' with h'; subst h'; exact ⟨hv, hh⟩
    · cases h'
  · rw [inH_one h, ho]; exact ⟨hW, rfl, hv⟩
  · refine fam_g hg (fun env' heap' hE hH => ?_)
    have := g_store_box (P := P) (n0 := N) (st := ⟨env', heap', N, nt⟩) ho hd (opE_mono hE hx) (hH id (.box t cs) (by simp [getH])) (opE_mono hE hy) hf hT hl
    rw [hd]
    exact this
  · rw [hd]; exact h
end
end Go.Proofs.Ytnbbnedpjfanoaa
