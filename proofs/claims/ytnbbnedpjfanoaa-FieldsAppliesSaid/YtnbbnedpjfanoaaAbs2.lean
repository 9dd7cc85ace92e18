/-
  A VALUE CALCULUS OVER THE MODEL, part 2: one operation; the operations of a region in the order of the text, and in an order that is drawn. Plain lemmas, over any program.
-/
import Derived.Test.YtnbbnedpjfanoaaAbs1
set_option linter.unusedVariables false
set_option linter.unusedSimpArgs false
set_option linter.unusedVariables false
namespace Go.Proofs.Ytnbbnedpjfanoaa
open Go.RowKit

def opE (env : List (Nat × V)) : Operand → Option V
  | .tmp t => getE env t
  | .const (.agg cs) => bif cs.toList.all (fun u => u.oneCell') then some (.agg (cs.toList.map .lit)) else none
  | .const (.tuple _) => none
  | .const v => some (.lit v)
  | .func f => some (.clo f [])
  | .global _ => none

theorem opE_sound {ρ : Nat → Option Value} {S : Nat → Prop} {w : World} {nt : Nat} {env : List (Nat × V)} {a : Act} (h : ERel ρ S w nt env a) {x : Operand} {v : V} (hx : opE env x = some v) : VRel ρ S w v (a.eval x) := by
  cases x with
  | tmp t => exact h.slot t v hx
  | const c =>
    cases c
    case agg cs =>
      simp only [opE] at hx
      cases hb : cs.toList.all (fun u => u.oneCell') with
      | false => rw [hb] at hx; cases hx
      | true =>
        rw [hb] at hx
        simp only [cond_true, Option.some.injEq] at hx
        subst hx
        refine .agg (by simp) (fun j hj => ?_)
        simp only [List.length_map, Array.length_toList] at hj
        have e1 : cAt (cs.toList.map V.lit) j = .lit (cs.getD j undef) := by
          unfold cAt
          rw [List.getD_eq_getElem?_getD, List.getElem?_map, List.getElem?_eq_getElem (by simpa using hj)]
          simp [Array.getD_eq_getD_getElem?, hj]
        rw [e1]
        refine .pure (.lit _ ?_)
        rw [List.all_eq_true] at hb
        refine hb _ ?_
        simp [Array.getD_eq_getD_getElem?, hj]
    case tuple => simp [opE] at hx
    all_goals (simp only [opE, Option.some.injEq] at hx; subst hx; exact .pure (.lit _ rfl))
  | func f =>
    simp only [opE, Option.some.injEq] at hx
    subst hx
    exact .clo (by simp) (fun j hj => by simp at hj)
  | global g => simp [opE] at hx

/-- the blocks of the numbers G -/
def GB (ρ : Nat → Option Value) (G : List Nat) (b : Nat) : Prop := ∃ id u, id ∈ G ∧ ρ id = some u ∧ blockOf u = some b
/-- nothing has turned but in the blocks B -/
structure Ext (B : Nat → Prop) (w w' : World) : Prop where
  size : w.heap.size ≤ w'.heap.size
  block : ∀ k, k < w.heap.size → ¬ B k → w'.heap[k]? = w.heap[k]?
theorem Ext.refl (B : Nat → Prop) (w : World) : Ext B w w := ⟨Nat.le_refl _, fun _ _ _ => rfl⟩
theorem Ext.trans {B : Nat → Prop} {a b c : World} (h : Ext B a b) (k : Ext B b c) : Ext B a c :=
  ⟨Nat.le_trans h.size k.size, fun i hi hB => (k.block i (Nat.lt_of_lt_of_le hi h.size) hB).trans (h.block i hi hB)⟩
theorem Ext.of_below {B : Nat → Prop} {w w' : World} (h : Below w.heap.size w w') : Ext B w w' := ⟨h.size, fun k hk _ => h.block k hk⟩

/-- all of G are live, and the call's own -/
def liveG (heap : List (Nat × Option Blk)) : List Nat → Bool
  | [] => true
  | id :: r => match getH heap id with
    | some B => B.owns && liveG heap r
    | none => false
theorem liveG_spec {heap : List (Nat × Option Blk)} : ∀ {G : List Nat}, liveG heap G = true → ∀ id, id ∈ G → ∃ B, getH heap id = some B ∧ B.owns = true
  | [], _, _, h => by cases h
  | i :: r, h, id, hm => by
    simp only [liveG] at h
    cases hB : getH heap i with
    | none => rw [hB] at h; cases h
    | some B =>
      rw [hB] at h
      simp only [Bool.and_eq_true] at h
      rcases List.mem_cons.1 hm with rfl | hm
      · exact ⟨B, hB, h.1⟩
      · exact liveG_spec h.2 id hm

/-- an operation that yields v in whatever world that has turned in G alone -/
def QStep (P : Program) (G : List Nat) (o : Oper) (st : St) (v : V) : Prop :=
  ∀ F base w0 ρ a w, HRel0 F base ρ st.heap st.next w0 w → ERel ρ (Stab F ρ st.heap) w st.nt st.env a → liveG st.heap G = true →
    ∃ u, VRel ρ (Stab F ρ st.heap) w v u ∧ ∀ w', Ext (GB ρ G) w w' → (execOp a.eval o).run P w' = .ok (.value u) w'

/-- what a step leaves: a new state; below number n0 nothing gets another block; nothing turns but in G -/
def Next (n0 : Nat) (F : Nat → Prop) (base : Nat → Prop) (w0 : World) (ρ : Nat → Option Value) (w : World) (st' : St) (a' : Act) (w' : World) : Prop :=
  ∃ ρ', HRel F base ρ' st'.heap st'.next w0 w' ∧ ERel ρ' (Stab F ρ' st'.heap) w' st'.nt st'.env a' ∧ (∀ id u, ρ id = some u → ρ' id = some u) ∧ (∀ id, id < n0 → ρ' id = ρ id)
def GStep (P : Program) (n0 : Nat) (o : Oper) (st st' : St) : Prop :=
  ∀ F base w0 ρ a w, HRel F base ρ st.heap st.next w0 w → ERel ρ (Stab F ρ st.heap) w st.nt st.env a → o.wp P a w (Next n0 F base w0 ρ w st') (fun _ _ _ => False)

/-! ### The rules for operations that only compute or read -/
section
variable {P : Program} {G : List Nat} {o : Oper} {st : St}

theorem q_of_run {v : V} (h : ∀ F base w0 ρ a w, HRel0 F base ρ st.heap st.next w0 w → ERel ρ (Stab F ρ st.heap) w st.nt st.env a → ∃ u, VRel ρ (Stab F ρ st.heap) w v u ∧ ∀ w', (execOp a.eval o).run P w' = .ok (.value u) w') : QStep P G o st v :=
  fun F base w0 ρ a w hH hE _ => let ⟨u, h1, h2⟩ := h F base w0 ρ a w hH hE; ⟨u, h1, fun w' _ => h2 w'⟩

theorem q_move {x : Operand} {v : V} (ho : o.op = .move x) (hx : opE st.env x = some v) : QStep P G o st v :=
  q_of_run fun F base w0 ρ a w hH hE => ⟨_, opE_sound hE hx, fun w' => by unfold execOp; rw [ho]; rfl⟩
theorem q_assign {x : Operand} {v : V} (ho : o.op = .assign x) (hx : opE st.env x = some v) : QStep P G o st v :=
  q_of_run fun F base w0 ρ a w hH hE => ⟨_, opE_sound hE hx, fun w' => by unfold execOp; rw [ho]; rfl⟩

theorem lit_inv {ρ : Nat → Option Value} {S : Nat → Prop} {w : World} {u u' : Value} (h : VRel ρ S w (.lit u) u') : u' = u := by
  cases h with
  | pure h => cases h; rfl
theorem lit_one {ρ : Nat → Option Value} {S : Nat → Prop} {w : World} {u u' : Value} (h : VRel ρ S w (.lit u) u') : u.oneCell' = true := by
  cases h with
  | pure h => cases h; assumption

theorem q_pick_t {c x y : Operand} {v : V} (ho : o.op = .pick c x y) (hc : opE st.env c = some (.lit (.bool true))) (hx : opE st.env x = some v) : QStep P G o st v :=
  q_of_run fun F base w0 ρ a w hH hE => ⟨_, opE_sound hE hx, fun w' => by unfold execOp; rw [ho]; simp only []; rw [lit_inv (opE_sound hE hc)]; rfl⟩
theorem q_pick_f {c x y : Operand} {v : V} (ho : o.op = .pick c x y) (hc : opE st.env c = some (.lit (.bool false))) (hx : opE st.env y = some v) : QStep P G o st v :=
  q_of_run fun F base w0 ρ a w hH hE => ⟨_, opE_sound hE hx, fun w' => by unfold execOp; rw [ho]; simp only []; rw [lit_inv (opE_sound hE hc)]; rfl⟩

/-- two literals make one -/
theorem q_bin {op : BinOp} {T yt : TypeId} {x y : Operand} {u v r : Value} (ho : o.op = .binOp op T x y yt) (hx : opE st.env x = some (.lit u)) (hy : opE st.env y = some (.lit v))
    (hr : ∀ w, (do eqGuard op T x y u v; binOp op T u v : Sem Value).run P w = .ok r w) (h1 : r.oneCell' = true) : QStep P G o st (.lit r) :=
  q_of_run fun F base w0 ρ a w hH hE => ⟨r, .pure (.lit _ h1), fun w' => by
    unfold execOp; rw [ho]; simp only []; rw [lit_inv (opE_sound hE hx), lit_inv (opE_sound hE hy)]
    have := hr w'
    simp only [Sem.run_bind] at this ⊢
    rw [this]; rfl⟩

theorem q_add {T yt : TypeId} {x y : Operand} {k : IntKind} {m n : Int} (ho : o.op = .binOp .add T x y yt) (hx : opE st.env x = some (.lit (.int k m))) (hy : opE st.env y = some (.lit (.int k n))) :
    QStep P G o st (.lit (.int k (k.wrap (m + n)))) := q_bin ho hx hy (fun w => by simp [eqGuard, binOp, Op.intArith, go_sem]) rfl
theorem q_sub {T yt : TypeId} {x y : Operand} {k : IntKind} {m n : Int} (ho : o.op = .binOp .sub T x y yt) (hx : opE st.env x = some (.lit (.int k m))) (hy : opE st.env y = some (.lit (.int k n))) :
    QStep P G o st (.lit (.int k (k.wrap (m - n)))) := q_bin ho hx hy (fun w => by simp [eqGuard, binOp, Op.intArith, go_sem]) rfl
theorem q_mul {T yt : TypeId} {x y : Operand} {k : IntKind} {m n : Int} (ho : o.op = .binOp .mul T x y yt) (hx : opE st.env x = some (.lit (.int k m))) (hy : opE st.env y = some (.lit (.int k n))) :
    QStep P G o st (.lit (.int k (k.wrap (m * n)))) := q_bin ho hx hy (fun w => by simp [eqGuard, binOp, Op.intArith, go_sem]) rfl
theorem q_quo {T yt : TypeId} {x y : Operand} {k : IntKind} {m n : Int} (ho : o.op = .binOp .quo T x y yt) (hx : opE st.env x = some (.lit (.int k m))) (hy : opE st.env y = some (.lit (.int k n))) (hn : n ≠ 0) :
    QStep P G o st (.lit (.int k (k.wrap (m.tdiv n)))) := q_bin ho hx hy (fun w => by simp [eqGuard, binOp, Op.intDiv, go_sem, hn]) rfl
theorem q_rem {T yt : TypeId} {x y : Operand} {k : IntKind} {m n : Int} (ho : o.op = .binOp .rem T x y yt) (hx : opE st.env x = some (.lit (.int k m))) (hy : opE st.env y = some (.lit (.int k n))) (hn : n ≠ 0) :
    QStep P G o st (.lit (.int k (m.tmod n))) := q_bin ho hx hy (fun w => by simp [eqGuard, binOp, Op.intDiv, go_sem, hn]) rfl
theorem q_lss {T yt : TypeId} {x y : Operand} {k : IntKind} {m n : Int} (ho : o.op = .binOp .lss T x y yt) (hx : opE st.env x = some (.lit (.int k m))) (hy : opE st.env y = some (.lit (.int k n))) :
    QStep P G o st (.lit (.bool (decide (m < n)))) := q_bin ho hx hy (fun w => by simp [eqGuard, binOp, Op.intCmp, go_sem]) rfl
theorem q_leq {T yt : TypeId} {x y : Operand} {k : IntKind} {m n : Int} (ho : o.op = .binOp .leq T x y yt) (hx : opE st.env x = some (.lit (.int k m))) (hy : opE st.env y = some (.lit (.int k n))) :
    QStep P G o st (.lit (.bool (decide (m ≤ n)))) := q_bin ho hx hy (fun w => by simp [eqGuard, binOp, Op.intCmp, go_sem]) rfl
theorem q_gtr {T yt : TypeId} {x y : Operand} {k : IntKind} {m n : Int} (ho : o.op = .binOp .gtr T x y yt) (hx : opE st.env x = some (.lit (.int k m))) (hy : opE st.env y = some (.lit (.int k n))) :
    QStep P G o st (.lit (.bool (decide (n < m)))) := q_bin ho hx hy (fun w => by simp [eqGuard, binOp, Op.intCmp, go_sem]) rfl
theorem q_geq {T yt : TypeId} {x y : Operand} {k : IntKind} {m n : Int} (ho : o.op = .binOp .geq T x y yt) (hx : opE st.env x = some (.lit (.int k m))) (hy : opE st.env y = some (.lit (.int k n))) :
    QStep P G o st (.lit (.bool (decide (n ≤ m)))) := q_bin ho hx hy (fun w => by simp [eqGuard, binOp, Op.intCmp, go_sem]) rfl
theorem beq_dec (m n : Int) : (m == n) = decide (m = n) := by rw [Bool.eq_iff_iff]; simp
theorem bne_dec (m n : Int) : (m != n) = decide (¬ m = n) := by rw [Bool.eq_iff_iff]; simp
theorem q_eql {T yt : TypeId} {x y : Operand} {k : IntKind} {m n : Int} (ho : o.op = .binOp .eql T x y yt) (hx : opE st.env x = some (.lit (.int k m))) (hy : opE st.env y = some (.lit (.int k n))) :
    QStep P G o st (.lit (.bool (decide (m = n)))) := q_bin ho hx hy (fun w => by rw [← beq_dec]; simp [eqGuard, binOp, Op.intCmp, go_sem]) rfl
theorem q_neq {T yt : TypeId} {x y : Operand} {k : IntKind} {m n : Int} (ho : o.op = .binOp .neq T x y yt) (hx : opE st.env x = some (.lit (.int k m))) (hy : opE st.env y = some (.lit (.int k n))) :
    QStep P G o st (.lit (.bool (decide (¬ m = n)))) := q_bin ho hx hy (fun w => by rw [← bne_dec]; simp [eqGuard, binOp, Op.intCmp, go_sem]) rfl
/-- a bit operation on two words -/
def bitsI (op : BinOp) (k : IntKind) (m n : Int) : Int :=
  k.wrap (((match op with | .and => BitVec.ofInt k.bits m &&& BitVec.ofInt k.bits n | .or => BitVec.ofInt k.bits m ||| BitVec.ofInt k.bits n | .xor => BitVec.ofInt k.bits m ^^^ BitVec.ofInt k.bits n | _ => BitVec.ofInt k.bits m &&& ~~~BitVec.ofInt k.bits n) : BitVec k.bits).toNat : Int)
theorem q_and {T yt : TypeId} {x y : Operand} {k : IntKind} {m n : Int} (ho : o.op = .binOp .and T x y yt) (hx : opE st.env x = some (.lit (.int k m))) (hy : opE st.env y = some (.lit (.int k n))) :
    QStep P G o st (.lit (.int k (bitsI .and k m n))) := q_bin ho hx hy (fun w => by simp [eqGuard, binOp, Op.intBits, bitsI, Sem.run_pure]) rfl
theorem q_or {T yt : TypeId} {x y : Operand} {k : IntKind} {m n : Int} (ho : o.op = .binOp .or T x y yt) (hx : opE st.env x = some (.lit (.int k m))) (hy : opE st.env y = some (.lit (.int k n))) :
    QStep P G o st (.lit (.int k (bitsI .or k m n))) := q_bin ho hx hy (fun w => by simp [eqGuard, binOp, Op.intBits, bitsI, Sem.run_pure]) rfl
theorem q_xor {T yt : TypeId} {x y : Operand} {k : IntKind} {m n : Int} (ho : o.op = .binOp .xor T x y yt) (hx : opE st.env x = some (.lit (.int k m))) (hy : opE st.env y = some (.lit (.int k n))) :
    QStep P G o st (.lit (.int k (bitsI .xor k m n))) := q_bin ho hx hy (fun w => by simp [eqGuard, binOp, Op.intBits, bitsI, Sem.run_pure]) rfl
theorem q_andNot {T yt : TypeId} {x y : Operand} {k : IntKind} {m n : Int} (ho : o.op = .binOp .andNot T x y yt) (hx : opE st.env x = some (.lit (.int k m))) (hy : opE st.env y = some (.lit (.int k n))) :
    QStep P G o st (.lit (.int k (bitsI .andNot k m n))) := q_bin ho hx hy (fun w => by simp [eqGuard, binOp, Op.intBits, bitsI, Sem.run_pure]) rfl
theorem q_shl {T yt : TypeId} {x y : Operand} {k k' : IntKind} {m n : Int} (ho : o.op = .binOp .shl T x y yt) (hx : opE st.env x = some (.lit (.int k m))) (hy : opE st.env y = some (.lit (.int k' n))) (hn : 0 ≤ n) :
    QStep P G o st (.lit (.int k (k.wrap (m * 2 ^ min n.toNat k.bits)))) := q_bin ho hx hy (fun w => by simp [eqGuard, binOp, Op.shift, go_sem, show ¬ n < 0 by omega]) rfl
theorem q_shr {T yt : TypeId} {x y : Operand} {k k' : IntKind} {m n : Int} (ho : o.op = .binOp .shr T x y yt) (hx : opE st.env x = some (.lit (.int k m))) (hy : opE st.env y = some (.lit (.int k' n))) (hn : 0 ≤ n) :
    QStep P G o st (.lit (.int k (m.fdiv (2 ^ min n.toNat k.bits)))) := q_bin ho hx hy (fun w => by simp [eqGuard, binOp, Op.shift, go_sem, show ¬ n < 0 by omega]) rfl
theorem ba_eq (m n : ByteArray) : (m.toList == n.toList) = decide (m = n) := by
  rw [Bool.eq_iff_iff]
  simp only [beq_iff_eq, decide_eq_true_eq, ByteArray.toList_eq]
  constructor
  · intro h; cases m; cases n; simp_all
  · intro h; rw [h]
theorem ba_ne (m n : ByteArray) : (!(m.toList == n.toList)) = decide (¬ m = n) := by rw [ba_eq]; simp
theorem q_str_eql {T yt : TypeId} {x y : Operand} {m n : ByteArray} (ho : o.op = .binOp .eql T x y yt) (hx : opE st.env x = some (.lit (.string m))) (hy : opE st.env y = some (.lit (.string n))) :
    QStep P G o st (.lit (.bool (decide (m = n)))) := q_bin ho hx hy (fun w => by rw [← ba_eq]; simp [eqGuard, binOp, Op.stringOp, Sem.run_pure]) rfl
theorem q_str_neq {T yt : TypeId} {x y : Operand} {m n : ByteArray} (ho : o.op = .binOp .neq T x y yt) (hx : opE st.env x = some (.lit (.string m))) (hy : opE st.env y = some (.lit (.string n))) :
    QStep P G o st (.lit (.bool (decide (¬ m = n)))) := q_bin ho hx hy (fun w => by rw [← ba_ne]; simp [eqGuard, binOp, Op.stringOp, Sem.run_pure]) rfl
theorem q_str_add {T yt : TypeId} {x y : Operand} {m n : ByteArray} (ho : o.op = .binOp .add T x y yt) (hx : opE st.env x = some (.lit (.string m))) (hy : opE st.env y = some (.lit (.string n))) (hn : m.size + n.size ≤ 9223372036854775807) :
    QStep P G o st (.lit (.string (m ++ n))) := q_bin ho hx hy (fun w => by
      have h : ¬ ((m.size + n.size : Nat) : Int) > IntKind.i64.max := by
        have : IntKind.i64.max = 9223372036854775807 := by decide
        rw [this]; omega
      simp only [eqGuard, binOp, Op.stringOp]
      simp only [if_neg h]
      rfl) rfl

theorem q_un {op : UnOp} {T : TypeId} {x : Operand} {u r : Value} (ho : o.op = .unOp op T x) (hx : opE st.env x = some (.lit u)) (hr : ∀ w, (Op.unary op u).run P w = .ok r w) (h1 : r.oneCell' = true) : QStep P G o st (.lit r) :=
  q_of_run fun F base w0 ρ a w hH hE => ⟨r, .pure (.lit _ h1), fun w' => by
    unfold execOp; rw [ho]; simp only []; rw [lit_inv (opE_sound hE hx)]
    simp only [Sem.run_bind, hr w']; rfl⟩
theorem q_not {T : TypeId} {x : Operand} {b : Bool} (ho : o.op = .unOp .not T x) (hx : opE st.env x = some (.lit (.bool b))) : QStep P G o st (.lit (.bool (!b))) :=
  q_un ho hx (fun _ => rfl) rfl
theorem q_neg {T : TypeId} {x : Operand} {k : IntKind} {n : Int} (ho : o.op = .unOp .neg T x) (hx : opE st.env x = some (.lit (.int k n))) : QStep P G o st (.lit (.int k (k.wrap (0 - n)))) :=
  q_un ho hx (fun _ => rfl) rfl
theorem q_xorU {T : TypeId} {x : Operand} {k : IntKind} {n : Int} (ho : o.op = .unOp .xor T x) (hx : opE st.env x = some (.lit (.int k n))) : QStep P G o st (.lit (.int k (bitsI .xor k (if k.signed then -1 else k.max) n))) :=
  q_un ho hx (fun _ => rfl) rfl

theorem q_conv_int {T U : TypeId} {x : Operand} {k k' : IntKind} {n : Int} {d : TypeDesc} (ho : o.op = .convert T U x) (hx : opE st.env x = some (.lit (.int k n))) (hT : P.underlying T = some d) (hU : P.underlying U = some (.int k')) :
    QStep P G o st (.lit (.int k' (k'.wrap n))) :=
  q_of_run fun F base w0 ρ a w hH hE => ⟨_, .pure (.lit _ rfl), fun w' => by
    unfold execOp; rw [ho]; simp only []; rw [lit_inv (opE_sound hE hx)]
    simp [convert, run_underlying hT, run_underlying hU, Conv.intToInt, go_sem]⟩
theorem q_conv_str {T U : TypeId} {x : Operand} {s : ByteArray} (ho : o.op = .convert T U x) (hx : opE st.env x = some (.lit (.string s))) (hT : P.underlying T = some .string) (hU : P.underlying U = some .string) :
    QStep P G o st (.lit (.string s)) :=
  q_of_run fun F base w0 ρ a w hH hE => ⟨_, .pure (.lit _ rfl), fun w' => by
    unfold execOp; rw [ho]; simp only []; rw [lit_inv (opE_sound hE hx)]
    simp [convert, run_underlying hT, run_underlying hU, go_sem]⟩

theorem q_extract {x : Operand} {i : Nat} {vs : List V} {v : V} (ho : o.op = .extract x i) (hx : opE st.env x = some (.tup vs)) (hi : vs[i]? = some v) : QStep P G o st v :=
  q_of_run fun F base w0 ρ a w hH hE => by
    have h := opE_sound hE hx
    generalize hu : a.eval x = u at h
    cases h with
    | pure h => cases h
    | @tup _ us hn h =>
      have hlt : i < vs.length := (List.getElem?_eq_some_iff.1 hi).1
      have := h i hlt
      have e : cAt vs i = v := by unfold cAt; rw [List.getD_eq_getElem?_getD, hi]; rfl
      rw [e] at this
      refine ⟨_, this, fun w' => ?_⟩
      unfold execOp; rw [ho]; simp only []; rw [hu]
      have e2 : us[i]? = some (us.getD i undef) := by rw [Array.getD_eq_getD_getElem?, Array.getElem?_eq_getElem (by omega)]; rfl
      simp only [Instr.extract, e2]; rfl

theorem run_len_slice {t e : TypeId} (ht : P.underlying t = some (.slice e)) (A : Option Addr) (n c : Nat) (ty : TypeId) (w : World) : (Builtin.len_ #[t] ty #[.slice A n c]).run P w = .ok (.int .i64 n) w := by
  simp [Builtin.len_, run_underlying ht, Sem.run_bind, Sem.run_pure, goInt]
theorem q_builtin1 {b : Builtin} {x : Operand} {ts : Array TypeId} {v : V} (ho : o.op = .call { callee := .builtin b, args := #[x], argTypes := ts })
    (hr : ∀ F base w0 ρ a w, HRel0 F base ρ st.heap st.next w0 w → ERel ρ (Stab F ρ st.heap) w st.nt st.env a → ∃ r, VRel ρ (Stab F ρ st.heap) w v r ∧ ∀ cs w', (builtin b ts o.type cs #[a.eval x]).run P w' = .ok (.value r) w') : QStep P G o st v :=
  q_of_run fun F base w0 ρ a w hH hE => by
    obtain ⟨r, h1, h2⟩ := hr F base w0 ρ a w hH hE
    refine ⟨r, h1, fun w' => ?_⟩
    unfold execOp; rw [ho]
    simp only [resolve, invoke, Sem.run_bind, Sem.run_pure, Result.andThen_ok, List.map_toArray, List.map_cons, List.map_nil]
    exact h2 _ w'
theorem q_builtin2 {b : Builtin} {x y : Operand} {ts : Array TypeId} {v : V} (ho : o.op = .call { callee := .builtin b, args := #[x, y], argTypes := ts })
    (hr : ∀ F base w0 ρ a w, HRel0 F base ρ st.heap st.next w0 w → ERel ρ (Stab F ρ st.heap) w st.nt st.env a → ∃ r, VRel ρ (Stab F ρ st.heap) w v r ∧ ∀ cs w', (builtin b ts o.type cs #[a.eval x, a.eval y]).run P w' = .ok (.value r) w') : QStep P G o st v :=
  q_of_run fun F base w0 ρ a w hH hE => by
    obtain ⟨r, h1, h2⟩ := hr F base w0 ρ a w hH hE
    refine ⟨r, h1, fun w' => ?_⟩
    unfold execOp; rw [ho]
    simp only [resolve, invoke, Sem.run_bind, Sem.run_pure, Result.andThen_ok, List.map_toArray, List.map_cons, List.map_nil]
    exact h2 _ w'
theorem q_len_str {x : Operand} {t : TypeId} {s : ByteArray} (ho : o.op = .call { callee := .builtin .len, args := #[x], argTypes := #[t] }) (hx : opE st.env x = some (.lit (.string s))) (ht : P.underlying t = some .string) :
    QStep P G o st (.lit (.int .i64 s.size)) :=
  q_builtin1 ho fun F base w0 ρ a w hH hE => ⟨_, .pure (.lit _ rfl), fun cs w' => by
    rw [lit_inv (opE_sound hE hx)]
    simp [builtin, Builtin.len_, run_underlying ht, Sem.run_bind, Sem.run_pure, goInt]⟩
theorem run_builtin_len {t e : TypeId} (ht : P.underlying t = some (.slice e)) (A : Option Addr) (n c : Nat) (ty : TypeId) (cs : Array Bool) (w : World) : (builtin .len #[t] ty cs #[.slice A n c]).run P w = .ok (.value (.int .i64 n)) w := by
  simp [builtin, Builtin.len_, run_underlying ht, Sem.run_bind, Sem.run_pure, goInt]
theorem q_len_ro {x : Operand} {t e : TypeId} {l : List (List V)} (ho : o.op = .call { callee := .builtin .len, args := #[x], argTypes := #[t] }) (hx : opE st.env x = some (.ro l)) (ht : P.underlying t = some (.slice e)) :
    QStep P G o st (.lit (.int .i64 l.length)) :=
  q_builtin1 ho fun F base w0 ρ a w hH hE => ⟨_, .pure (.lit _ rfl), fun cs w' => by
    have h := opE_sound hE hx
    generalize a.eval x = u at h
    cases h with
    | pure h => cases h with
      | ro => exact run_builtin_len ht _ _ _ _ _ _⟩
theorem q_len_nil {x : Operand} {t e : TypeId} {A : Option Addr} {n c : Nat} (ho : o.op = .call { callee := .builtin .len, args := #[x], argTypes := #[t] }) (hx : opE st.env x = some (.lit (.slice A n c))) (ht : P.underlying t = some (.slice e)) :
    QStep P G o st (.lit (.int .i64 n)) :=
  q_builtin1 ho fun F base w0 ρ a w hH hE => ⟨_, .pure (.lit _ rfl), fun cs w' => by
    rw [lit_inv (opE_sound hE hx)]; exact run_builtin_len ht _ _ _ _ _ _⟩
/-- what a slice of the call's own is in the world -/
theorem HRel0.row {F : Nat → Prop} {base : Nat → Prop} {ρ : Nat → Option Value} {heap : List (Nat × Option Blk)} {next : Nat} {w0 w : World} (h : HRel0 F base ρ heap next w0 w) {id : Nat} {e : TypeId} {s : Nat} {l : List (List V)} (hh : getH heap id = some (.row e s l)) :
    ∃ A c, ρ id = some (.slice A l.length c) := by
  obtain ⟨_, v, xs, h1, ⟨h2, _⟩, _⟩ := h.blk _ _ hh
  rcases h2.2 with ⟨rfl, h0⟩ | ⟨g, cap, cur, rfl, _⟩
  · exact ⟨_, _, by rw [h0]; exact h1⟩
  · exact ⟨_, _, h1⟩
theorem HRel0.fro {F : Nat → Prop} {base : Nat → Prop} {ρ : Nat → Option Value} {heap : List (Nat × Option Blk)} {next : Nat} {w0 w : World} (h : HRel0 F base ρ heap next w0 w) {id : Nat} {l : List (List V)} (hh : getH heap id = some (.fro l)) :
    ∃ A c, ρ id = some (.slice A l.length c) := by
  obtain ⟨v, h1, h2, _⟩ := h.blk _ _ hh
  cases h2 with
  | ro => exact ⟨_, _, h1⟩
theorem own_inv {ρ : Nat → Option Value} {S : Nat → Prop} {w : World} {id : Nat} {u : Value} (h : VRel ρ S w (.own id) u) : ρ id = some u := by
  cases h with
  | pure h => cases h
  | own h => exact h
theorem q_len_row {x : Operand} {t t' : TypeId} {id : Nat} {e : TypeId} {s : Nat} {l : List (List V)} (ho : o.op = .call { callee := .builtin .len, args := #[x], argTypes := #[t] }) (hx : opE st.env x = some (.own id)) (hh : getH st.heap id = some (.row e s l)) (ht : P.underlying t = some (.slice t')) :
    QStep P G o st (.lit (.int .i64 l.length)) :=
  q_builtin1 ho fun F base w0 ρ a w hH hE => ⟨_, .pure (.lit _ rfl), fun cs w' => by
    have h := own_inv (opE_sound hE hx)
    obtain ⟨A, c, h2⟩ := hH.row hh
    rw [h] at h2; injection h2 with h2
    rw [h2]; exact run_builtin_len ht _ _ _ _ _ _⟩
theorem q_len_fro {x : Operand} {t t' : TypeId} {id : Nat} {l : List (List V)} (ho : o.op = .call { callee := .builtin .len, args := #[x], argTypes := #[t] }) (hx : opE st.env x = some (.own id)) (hh : getH st.heap id = some (.fro l)) (ht : P.underlying t = some (.slice t')) :
    QStep P G o st (.lit (.int .i64 l.length)) :=
  q_builtin1 ho fun F base w0 ρ a w hH hE => ⟨_, .pure (.lit _ rfl), fun cs w' => by
    have h := own_inv (opE_sound hE hx)
    obtain ⟨A, c, h2⟩ := hH.fro hh
    rw [h] at h2; injection h2 with h2
    rw [h2]; exact run_builtin_len ht _ _ _ _ _ _⟩
/-- an array's length -/
theorem q_len_arr {x : Operand} {t e : TypeId} {n : Nat} (ho : o.op = .call { callee := .builtin .len, args := #[x], argTypes := #[t] }) (ht : P.underlying t = some (.array n e)) :
    QStep P G o st (.lit (.int .i64 n)) :=
  q_builtin1 ho fun F base w0 ρ a w hH hE => ⟨_, .pure (.lit _ rfl), fun cs w' => by
    simp [builtin, Builtin.len_, run_underlying ht, Sem.run_bind, Sem.run_pure, goInt]⟩
theorem q_max {x y : Operand} {ts : Array TypeId} {k : IntKind} {m n : Int} (ho : o.op = .call { callee := .builtin .max, args := #[x, y], argTypes := ts }) (hx : opE st.env x = some (.lit (.int k m))) (hy : opE st.env y = some (.lit (.int k n))) :
    QStep P G o st (.lit (.int k (max m n))) :=
  q_builtin2 ho fun F base w0 ρ a w hH hE => ⟨_, .pure (.lit _ rfl), fun cs w' => by
    rw [lit_inv (opE_sound hE hx), lit_inv (opE_sound hE hy)]
    have e : max m n = if n > m then n else m := by split <;> omega
    rw [e]
    simp [builtin, Builtin.max_, Builtin.max2, Sem.run_pure]⟩
theorem q_min {x y : Operand} {ts : Array TypeId} {k : IntKind} {m n : Int} (ho : o.op = .call { callee := .builtin .min, args := #[x, y], argTypes := ts }) (hx : opE st.env x = some (.lit (.int k m))) (hy : opE st.env y = some (.lit (.int k n))) :
    QStep P G o st (.lit (.int k (min m n))) :=
  q_builtin2 ho fun F base w0 ρ a w hH hE => ⟨_, .pure (.lit _ rfl), fun cs w' => by
    rw [lit_inv (opE_sound hE hx), lit_inv (opE_sound hE hy)]
    have e : min m n = if n < m then n else m := by split <;> omega
    rw [e]
    simp [builtin, Builtin.min_, Builtin.min2, Sem.run_pure]⟩

/-! ### Addresses -/
theorem add_addr (b o n : Nat) : (Addr.mk b o none).add n = ⟨b, o + n, none⟩ := by
  unfold Addr.add
  by_cases h : n = 0 <;> simp [h]
theorem run_fieldAt {T : TypeId} {fields : Array Field} {f : Nat} {fd : Field} {ti : TypeInfo} (hT : P.underlying T = some (.struct fields)) (hf : fields[f]? = some fd) (hi : P.info? fd.type = some ti) (hn : ti.size ≠ 0) (b off : Nat) (w : World) :
    (Instr.fieldAt T (.pointer (some ⟨b, off, none⟩)) f).run P w = .ok (.pointer (some ⟨b, off + fd.offset, none⟩)) w := by
  simp [Instr.fieldAt, Instr.sureAddr, fieldPlace, sizeOf, typeInfo, run_underlying hT, hf, hi, hn, Sem.run_bind, Sem.run_pure, program, Sem.run, add_addr]
/-- a field's offset, and whether it takes room -/
def fieldOff (P : Program) (T : TypeId) (f : Nat) : Option Nat :=
  match P.underlying T with
  | some (.struct fields) => match fields[f]? with
    | some fd => match P.info? fd.type with
      | some ti => bif Nat.beq ti.size 0 then none else some fd.offset
      | none => none
    | none => none
  | _ => none
theorem run_fieldOff {T : TypeId} {f n : Nat} (h : fieldOff P T f = some n) (b off : Nat) (w : World) :
    (Instr.fieldAt T (.pointer (some ⟨b, off, none⟩)) f).run P w = .ok (.pointer (some ⟨b, off + n, none⟩)) w := by
  unfold fieldOff at h
  split at h
  · rename_i fields hT
    split at h
    · rename_i fd hf
      split at h
      · rename_i ti hi
        cases hb : Nat.beq ti.size 0 with
        | true => rw [hb] at h; cases h
        | false =>
          rw [hb] at h
          simp only [cond_false, Option.some.injEq] at h
          subst h
          exact run_fieldAt hT hf hi (fun e => by rw [e] at hb; cases hb) b off w
      · cases h
    · cases h
  · cases h
theorem ptr_inv {ρ : Nat → Option Value} {S : Nat → Prop} {w : World} {id i s j : Nat} {u : Value} (h : VRel ρ S w (.ptr id i s j) u) : ∃ r b, ρ id = some r ∧ blockOf r = some b ∧ u = .pointer (some ⟨b, i * s + j, none⟩) := by
  cases h with
  | pure h => cases h
  | ptr h hb => exact ⟨_, _, h, hb, rfl⟩
theorem rp_inv {ρ : Nat → Option Value} {S : Nat → Prop} {w : World} {cs : List V} {u : Value} (h : VRel ρ S w (.rp cs) u) : ∃ (b off : Nat) (us : Nat → Value), u = .pointer (some ⟨b, off, none⟩) ∧ (0 < cs.length → S b) ∧ (∀ j, j < cs.length → w.cell? ⟨b, off + j, none⟩ = some (us j)) ∧ ∀ j, j < cs.length → PRel S w (cAt cs j) (us j) := by
  cases h with
  | pure h => cases h
  | rp us hS hc hr => exact ⟨_, _, us, rfl, hS, hc, hr⟩
theorem cAt_drop (cs : List V) (n j : Nat) : cAt (cs.drop n) j = cAt cs (n + j) := by
  unfold cAt
  rw [List.getD_eq_getElem?_getD, List.getD_eq_getElem?_getD, List.getElem?_drop]
theorem rp_drop {ρ : Nat → Option Value} {S : Nat → Prop} {w : World} {cs : List V} {b off : Nat} {us : Nat → Value} (n : Nat) (hS : 0 < cs.length → S b) (hc : ∀ j, j < cs.length → w.cell? ⟨b, off + j, none⟩ = some (us j)) (hr : ∀ j, j < cs.length → PRel S w (cAt cs j) (us j)) :
    VRel ρ S w (.rp (cs.drop n)) (.pointer (some ⟨b, off + n, none⟩)) := by
  refine .rp (fun j => us (n + j)) (fun h => hS (by simp at h; omega)) (fun j hj => ?_) (fun j hj => ?_)
  · simp only [List.length_drop] at hj
    rw [Nat.add_assoc]
    exact hc (n + j) (by omega)
  · simp only [List.length_drop] at hj
    rw [cAt_drop]
    exact hr (n + j) (by omega)
theorem q_field_ptr {T : TypeId} {x : Operand} {f n id i s j : Nat} (ho : o.op = .fieldAddr T x f) (hx : opE st.env x = some (.ptr id i s j)) (hf : fieldOff P T f = some n) : QStep P G o st (.ptr id i s (j + n)) :=
  q_of_run fun F base w0 ρ a w hH hE => by
    obtain ⟨r, b, h1, h2, h3⟩ := ptr_inv (opE_sound hE hx)
    refine ⟨_, .ptr h1 h2, fun w' => ?_⟩
    unfold execOp; rw [ho]; simp only []; rw [h3]
    simp only [Sem.run_bind, run_fieldOff hf, Nat.add_assoc]; rfl
theorem q_field_rp {T : TypeId} {x : Operand} {f n : Nat} {cs : List V} (ho : o.op = .fieldAddr T x f) (hx : opE st.env x = some (.rp cs)) (hf : fieldOff P T f = some n) : QStep P G o st (.rp (cs.drop n)) :=
  q_of_run fun F base w0 ρ a w hH hE => by
    obtain ⟨b, off, us, h1, h2, h3, h4⟩ := rp_inv (opE_sound hE hx)
    refine ⟨_, rp_drop n h2 h3 h4, fun w' => ?_⟩
    unfold execOp; rw [ho]; simp only []; rw [h1]
    simp only [Sem.run_bind, run_fieldOff hf]; rfl
end
end Go.Proofs.Ytnbbnedpjfanoaa
