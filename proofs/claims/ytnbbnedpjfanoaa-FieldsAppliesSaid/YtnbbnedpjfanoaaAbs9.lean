/-
  A VALUE CALCULUS OVER THE MODEL, part 9: the steps, each with its own search. Plain lemmas, over any program.
-/
import Derived.Test.YtnbbnedpjfanoaaAbs8
set_option linter.unusedVariables false
set_option linter.unusedSimpArgs false
set_option linter.unusedVariables false
namespace Go.Proofs.Ytnbbnedpjfanoaa
open Go.RowKit
section
variable {P : Program} {n0 : Nat} {ops : List Oper} {o : Oper} {rest : List Oper} {st : St} {Q : St → Prop}

/-! ### One function for the operations that only compute or read -/
def binV (op : BinOp) (u v : Value) : Option Value :=
  match u, v with
  | .int k m, .int k' n => bif decide (k = k') then (match op with
      | .add => some (.int k (k.wrap (m + n)))
      | .sub => some (.int k (k.wrap (m - n)))
      | .mul => some (.int k (k.wrap (m * n)))
      | .and => some (.int k (bitsI .and k m n))
      | .or => some (.int k (bitsI .or k m n))
      | .xor => some (.int k (bitsI .xor k m n))
      | .andNot => some (.int k (bitsI .andNot k m n))
      | _ => none) else none
  | _, _ => none
theorem binV_spec {op : BinOp} {T yt : TypeId} {x y : Operand} {u v r : Value} {G : List Nat} (ho : o.op = .binOp op T x y yt) (hx : opE st.env x = some (.lit u)) (hy : opE st.env y = some (.lit v)) (h : binV op u v = some r) : QStep P G o st (.lit r) := by
  unfold binV at h
  split at h
  · rename_i k m k' n
    cases hk : decide (k = k') with
    | false => rw [hk] at h; cases h
    | true =>
      rw [hk] at h
      have hk := of_decide_eq_true hk
      subst hk
      simp only [cond_true] at h
      split at h
      · injection h with h; subst h; exact q_add ho hx hy
      · injection h with h; subst h; exact q_sub ho hx hy
      · injection h with h; subst h; exact q_mul ho hx hy
      · injection h with h; subst h; exact q_and ho hx hy
      · injection h with h; subst h; exact q_or ho hx hy
      · injection h with h; subst h; exact q_xor ho hx hy
      · injection h with h; subst h; exact q_andNot ho hx hy
      · cases h
  · cases h
def unV (op : UnOp) (u : Value) : Option Value :=
  match op, u with
  | .not, .bool b => some (.bool (bif b then false else true))
  | .neg, .int k n => some (.int k (k.wrap (0 - n)))
  | .xor, .int k n => some (.int k (bitsI .xor k (if k.signed then -1 else k.max) n))
  | _, _ => none
theorem unV_spec {op : UnOp} {T : TypeId} {x : Operand} {u r : Value} {G : List Nat} (ho : o.op = .unOp op T x) (hx : opE st.env x = some (.lit u)) (h : unV op u = some r) : QStep P G o st (.lit r) := by
  unfold unV at h
  split at h
  · injection h with h; subst h
    rename_i b
    have := q_not (P := P) (G := G) ho hx
    cases b <;> exact this
  · injection h with h; subst h; exact q_neg ho hx
  · injection h with h; subst h; exact q_xorU ho hx
  · cases h
def loadV (P : Program) (G : List Nat) (st : St) (T : TypeId) (p : V) : Option V :=
  match p with
  | .rp cs => match aggT P T with
    | some true => match sizeT P T with
      | some n => bif Nat.ble n cs.length then some (.agg (cs.take n)) else none
      | none => none
    | some false => cs[0]?
    | none => none
  | .ptr id 0 _ j => match getH st.heap id with
    | some (.box _ cs) => bif notIn id G then (match aggT P T with
      | some true => match sizeT P T with
        | some n => bif Nat.ble n (cs.drop j).length then some (.agg ((cs.drop j).take n)) else none
        | none => none
      | some false => (cs.drop j)[0]?
      | none => none) else none
    | _ => none
  | _ => none
theorem loadV_spec {T : TypeId} {x : Operand} {p v : V} {G : List Nat} (ho : o.op = .load T x) (hx : opE st.env x = some p) (h : loadV P G st T p = some v) : QStep P G o st v := by
  have key : ∀ cs : List V, Reads G st p cs → (match aggT P T with
    | some true => match sizeT P T with
      | some n => bif Nat.ble n cs.length then some (V.agg (cs.take n)) else none
      | none => none
    | some false => cs[0]?
    | none => none) = some v → QStep P G o st v := by
    intro cs hr h
    cases hT : aggT P T with
    | none => rw [hT] at h; cases h
    | some b =>
      rw [hT] at h
      cases b with
      | false => exact q_load_one ho hx hT hr h
      | true =>
        cases hn : sizeT P T with
        | none => simp only [hn] at h; cases h
        | some n =>
          simp only [hn] at h
          cases hb : Nat.ble n cs.length with
          | false => rw [hb] at h; cases h
          | true =>
            rw [hb] at h
            injection h with h; subst h
            exact q_load_agg ho hx hT hn hr (Nat.le_of_ble_eq_true hb)
  cases p with
  | rp cs => exact key cs reads_rp h
  | ptr id i s j =>
    cases i with
    | succ => cases h
    | zero =>
      cases hh : getH st.heap id with
      | none => simp only [loadV, hh] at h; cases h
      | some B =>
        cases B with
        | box t cs =>
          simp only [loadV, hh] at h
          cases hG : notIn id G with
          | false => rw [hG] at h; cases h
          | true =>
            rw [hG] at h
            exact key (cs.drop j) (reads_box hh hG) h
        | _ => simp only [loadV, hh] at h; cases h
  | _ => cases h
def lenV (P : Program) (st : St) (t : TypeId) (x : V) : Option V :=
  match P.underlying t with
  | some (.slice _) => match x with
    | .ro l => some (.lit (.int .i64 l.length))
    | .lit (.slice _ n _) => some (.lit (.int .i64 n))
    | .own id => match getH st.heap id with
      | some (.row _ _ l) => some (.lit (.int .i64 l.length))
      | some (.fro l) => some (.lit (.int .i64 l.length))
      | _ => none
    | _ => none
  | some .string => match x with
    | .lit (.string s) => some (.lit (.int .i64 s.size))
    | _ => none
  | some (.array n _) => some (.lit (.int .i64 n))
  | _ => none
theorem lenV_spec {t : TypeId} {x : Operand} {p v : V} {G : List Nat} (ho : o.op = .call { callee := .builtin .len, args := #[x], argTypes := #[t] }) (hx : opE st.env x = some p) (h : lenV P st t p = some v) : QStep P G o st v := by
  unfold lenV at h
  split at h
  · rename_i e ht
    split at h
    · injection h with h; subst h; exact q_len_ro ho hx ht
    · injection h with h; subst h; exact q_len_nil ho hx ht
    · split at h
      · rename_i hh; injection h with h; subst h; exact q_len_row ho hx hh ht
      · rename_i hh; injection h with h; subst h; exact q_len_fro ho hx hh ht
      · cases h
    · cases h
  · rename_i ht
    split at h
    · injection h with h; subst h; exact q_len_str ho hx ht
    · cases h
  · rename_i ht
    injection h with h; subst h; exact q_len_arr ho ht
  · cases h
def stepV (P : Program) (G : List Nat) (st : St) : Op → Option V
  | .move x => opE st.env x
  | .assign x => opE st.env x
  | .pick c x y => match opE st.env c with
    | some (.lit (.bool b)) => bif b then opE st.env x else opE st.env y
    | _ => none
  | .binOp op _ x y _ => match opE st.env x with
    | some (.lit u) => match opE st.env y with
      | some (.lit v) => match binV op u v with
        | some r => some (.lit r)
        | none => none
      | _ => none
    | _ => none
  | .unOp op _ x => match opE st.env x with
    | some (.lit u) => match unV op u with
      | some r => some (.lit r)
      | none => none
    | _ => none
  | .load T x => match opE st.env x with
    | some p => loadV P G st T p
    | none => none
  | .fieldAddr T x f => match fieldOff P T f with
    | some n => match opE st.env x with
      | some (.ptr id i s j) => some (.ptr id i s (j + n))
      | some (.rp cs) => some (.rp (cs.drop n))
      | _ => none
    | none => none
  | .extract x i => match opE st.env x with
    | some (.tup vs) => vs[i]?
    | _ => none
  | .convert T U x => match P.underlying T with
    | some d => match P.underlying U with
      | some (.int k') => match opE st.env x with
        | some (.lit (.int _ n)) => some (.lit (.int k' (k'.wrap n)))
        | _ => none
      | some .string => match d with
        | .string => match opE st.env x with
          | some (.lit (.string s)) => some (.lit (.string s))
          | _ => none
        | _ => none
      | _ => none
    | none => none
  | .build T parts => match zeroT P T with
    | some z => match placeT P T with
      | some pl => match partsE st.env parts.toList with
        | some ps => match fillV pl z ps with
          | some cs => some (.agg cs)
          | none => none
        | none => none
      | none => none
    | none => none
  | .call { callee := .builtin .len, args := ⟨[x]⟩, argTypes := ⟨[t]⟩ } => match opE st.env x with
    | some p => lenV P st t p
    | none => none
  | .call { callee := .builtin .max, args := ⟨[x, y]⟩, argTypes := _ } => match opE st.env x with
    | some (.lit (.int k m)) => match opE st.env y with
      | some (.lit (.int k' n)) => bif decide (k = k') then some (.lit (.int k (max m n))) else none
      | _ => none
    | _ => none
  | .call { callee := .builtin .min, args := ⟨[x, y]⟩, argTypes := _ } => match opE st.env x with
    | some (.lit (.int k m)) => match opE st.env y with
      | some (.lit (.int k' n)) => bif decide (k = k') then some (.lit (.int k (min m n))) else none
      | _ => none
    | _ => none
  | _ => none
theorem stepV_spec {v : V} {G : List Nat} (h : stepV P G st o.op = some v) : QStep P G o st v := by
  generalize hop : o.op = op at h
  unfold stepV at h
  split at h
  · exact q_move hop h
  · exact q_assign hop h
  · split at h
    · rename_i b hc
      cases b
      · exact q_pick_f hop hc h
      · exact q_pick_t hop hc h
    · cases h
  · split at h
    · rename_i hx
      split at h
      · rename_i hy
        split at h
        · rename_i hr; injection h with h; subst h; exact binV_spec hop hx hy hr
        · cases h
      · cases h
    · cases h
  · split at h
    · rename_i hx
      split at h
      · rename_i hr; injection h with h; subst h; exact unV_spec hop hx hr
      · cases h
    · cases h
  · split at h
    · rename_i hx; exact loadV_spec hop hx h
    · cases h
  · split at h
    · rename_i hn
      split at h
      · rename_i hx; injection h with h; subst h; exact q_field_ptr hop hx hn
      · rename_i hx; injection h with h; subst h; exact q_field_rp hop hx hn
      · cases h
    · cases h
  · split at h
    · rename_i hx; exact q_extract hop hx h
    · cases h
  · split at h
    · rename_i d hT
      split at h
      · rename_i hU
        split at h
        · rename_i hx; injection h with h; subst h; exact q_conv_int hop hx hT hU
        · cases h
      · rename_i hU
        split at h
        · split at h
          · rename_i hx; injection h with h; subst h; exact q_conv_str hop hx hT hU
          · cases h
        · cases h
      · cases h
    · cases h
  · split at h
    · rename_i hz
      split at h
      · rename_i hpl
        split at h
        · rename_i hp
          split at h
          · rename_i hf; injection h with h; subst h; exact q_build hop hz hpl hp hf
          · cases h
        · cases h
      · cases h
    · cases h
  · split at h
    · rename_i hx; exact lenV_spec hop hx h
    · cases h
  · split at h
    · rename_i k m hx
      split at h
      · rename_i k' n hy
        cases hk : decide (k = k') with
        | false => rw [hk] at h; cases h
        | true =>
          rw [hk] at h
          have hk := of_decide_eq_true hk
          subst hk
          injection h with h; subst h
          exact q_max hop hx hy
      · cases h
    · cases h
  · split at h
    · rename_i k m hx
      split at h
      · rename_i k' n hy
        cases hk : decide (k = k') with
        | false => rw [hk] at h; cases h
        | true =>
          rw [hk] at h
          have hk := of_decide_eq_true hk
          subst hk
          injection h with h; subst h
          exact q_min hop hx hy
      · cases h
    · cases h
  · cases h
/-- a comparison -/
def cmpV (env : List (Nat × V)) : Op → Option Prop
  | .binOp op _ x y _ => match opE env x with
    | some (.lit (.int k m)) => match opE env y with
      | some (.lit (.int k' n)) => bif decide (k = k') then (match op with
        | .lss => some (m < n)
        | .leq => some (m ≤ n)
        | .gtr => some (n < m)
        | .geq => some (n ≤ m)
        | .eql => some (m = n)
        | .neq => some (¬ m = n)
        | _ => none) else none
      | _ => none
    | _ => none
  | _ => none
theorem cmpV_spec {p : Prop} {G : List Nat} (h : cmpV st.env o.op = some p) : (p → QStep P G o st (.lit (.bool true))) ∧ (¬ p → QStep P G o st (.lit (.bool false))) := by
  have key : ∀ (p : Prop) [Decidable p], QStep P G o st (.lit (.bool (decide p))) → (p → QStep P G o st (.lit (.bool true))) ∧ (¬ p → QStep P G o st (.lit (.bool false))) := fun p _ h => ⟨fun hp => by rw [decide_eq_true hp] at h; exact h, fun hp => by rw [decide_eq_false hp] at h; exact h⟩
  generalize hop : o.op = op at h
  unfold cmpV at h
  split at h
  · split at h
    · rename_i k m hx
      split at h
      · rename_i k' n hy
        cases hk : decide (k = k') with
        | false => rw [hk] at h; cases h
        | true =>
          rw [hk] at h
          have hk := of_decide_eq_true hk
          subst hk
          simp only [cond_true] at h
          split at h
          · injection h with h; subst h; exact key _ (q_lss hop hx hy)
          · injection h with h; subst h; exact key _ (q_leq hop hx hy)
          · injection h with h; subst h; exact key _ (q_gtr hop hx hy)
          · injection h with h; subst h; exact key _ (q_geq hop hx hy)
          · injection h with h; subst h; exact key _ (q_eql hop hx hy)
          · injection h with h; subst h; exact key _ (q_neq hop hx hy)
          · cases h
      · cases h
    · cases h
  · cases h
/-! ### Sums that stay within their kind -/
def rawV (env : List (Nat × V)) (P : Program) : Op → Option (IntKind × Int)
  | .binOp op _ x y _ => match opE env x with
    | some (.lit (.int k m)) => match opE env y with
      | some (.lit (.int k' n)) => bif decide (k = k') then (match op with
        | .add => some (k, m + n)
        | .sub => some (k, m - n)
        | .mul => some (k, m * n)
        | _ => none) else none
      | _ => none
    | _ => none
  | .convert T U x => match P.underlying U with
    | some (.int k') => match P.underlying T with
      | some _ => match opE env x with
        | some (.lit (.int _ n)) => some (k', n)
        | _ => none
      | none => none
    | _ => none
  | _ => none
theorem rawV_spec {k : IntKind} {r : Int} {G : List Nat} (h : rawV st.env P o.op = some (k, r)) : QStep P G o st (.lit (.int k (k.wrap r))) := by
  generalize hop : o.op = op at h
  unfold rawV at h
  split at h
  · split at h
    · rename_i k m hx
      split at h
      · rename_i k' n hy
        cases hk : decide (k = k') with
        | false => rw [hk] at h; cases h
        | true =>
          rw [hk] at h
          have hk := of_decide_eq_true hk
          subst hk
          simp only [cond_true] at h
          split at h
          · injection h with h; injection h with h1 h2; subst h1; subst h2; exact q_add hop hx hy
          · injection h with h; injection h with h1 h2; subst h1; subst h2; exact q_sub hop hx hy
          · injection h with h; injection h with h1 h2; subst h1; subst h2; exact q_mul hop hx hy
          · cases h
      · cases h
    · cases h
  · split at h
    · rename_i hU
      split at h
      · rename_i hT
        split at h
        · rename_i hx; injection h with h; injection h with h1 h2; subst h1; subst h2; exact q_conv_int hop hx hT hU
        · cases h
      · cases h
    · cases h
  · cases h

/-- a slice's elements -/
def listV (heap : List (Nat × Option Blk)) : V → Option (List (List V))
  | .ro l => some l
  | .own id => match getH heap id with
    | some (.row _ _ l) => some l
    | some (.fro l) => some l
    | _ => none
  | _ => none
/-- a list written out -/
inductive Norm : List V → List V → Prop
  | nil : Norm [] []
  | cons {c : V} {cs ds : List V} (h : Norm cs ds) : Norm (c :: cs) (c :: ds)
theorem Norm.eq {cs ds : List V} (h : Norm cs ds) : cs = ds := by
  induction h with
  | nil => rfl
  | cons h ih => rw [ih]
/-- a value written out -/
inductive NormV : V → V → Prop
  | agg {cs ds : List V} (h : Norm cs ds) : NormV (.agg cs) (.agg ds)
  | rp {cs ds : List V} (h : Norm cs ds) : NormV (.rp cs) (.rp ds)
  | same {v : V} : NormV v v
theorem NormV.eq {v u : V} (h : NormV v u) : v = u := by
  cases h with
  | agg h => rw [h.eq]
  | rp h => rw [h.eq]
  | same => rfl
end

/-! ### The steps, from a state that is written out to one that is written out -/
section
variable {P : Program} {n0 : Nat} {ops : List Oper} {o : Oper} {rest : List Oper} {env : List (Nat × V)} {heap : List (Nat × Option Blk)} {next nt : Nat} {Q : St → Prop}
theorem x_q {v : V} {d : Nat} (hg : guardV env ops o.guard = some true) (hd : o.dst = some d) (hdn : Nat.blt d nt = true) (hq : QStep P [] o ⟨env, heap, next, nt⟩ v) (h : RunL P n0 ops.toArray rest ⟨(d, v) :: env, heap, next, nt⟩ Q) : RunL P n0 ops.toArray (o :: rest) ⟨env, heap, next, nt⟩ Q :=
  l_q (v := v) hg (by rw [hd]; exact hdn) hq (by rw [hd]; exact h)
theorem s_skip {d : Nat} (hg : guardV env ops o.guard = some false := by rfl) (hd : o.dst = some d := by rfl) (hdn : Nat.blt d nt = true := by rfl) (h : RunL P n0 ops.toArray rest ⟨(d, .und) :: env, heap, next, nt⟩ Q) : RunL P n0 ops.toArray (o :: rest) ⟨env, heap, next, nt⟩ Q :=
  l_skip hg (by rw [hd]; exact hdn) (by rw [hd]; exact h)
/-- an operation that only computes or reads -/
theorem s_q {v u : V} {d : Nat} (hq : stepV P [] ⟨env, heap, next, nt⟩ o.op = some v := by rfl) (hg : guardV env ops o.guard = some true := by rfl) (hN : NormV v u := by first | (apply NormV.agg; repeat' first | exact Norm.nil | apply Norm.cons) | (apply NormV.rp; repeat' first | exact Norm.nil | apply Norm.cons) | exact NormV.same)
    (hd : o.dst = some d := by rfl) (hdn : Nat.blt d nt = true := by rfl) (h : RunL P n0 ops.toArray rest ⟨(d, u) :: env, heap, next, nt⟩ Q) : RunL P n0 ops.toArray (o :: rest) ⟨env, heap, next, nt⟩ Q :=
  x_q hg hd hdn (by rw [← hN.eq]; exact stepV_spec hq) h
theorem s_len {x : Operand} {t e : TypeId} {v : V} {l : List (List V)} {n d : Nat} (ho : o.op = .call { callee := .builtin .len, args := #[x], argTypes := #[t] } := by rfl) (hx : opE env x = some v := by rfl) (hl : listV heap v = some l := by rfl)
    (ht : P.underlying t = some (.slice e) := by rfl) (hn : l.length = n := by first | exact List.length_map _ | (simp only [List.length_map, List.length_append, List.length_cons, List.length_nil, List.length_set]; rfl) | rfl)
    (hg : guardV env ops o.guard = some true := by rfl) (hd : o.dst = some d := by rfl) (hdn : Nat.blt d nt = true := by rfl) (h : RunL P n0 ops.toArray rest ⟨(d, .lit (.int .i64 n)) :: env, heap, next, nt⟩ Q) : RunL P n0 ops.toArray (o :: rest) ⟨env, heap, next, nt⟩ Q := by
  subst hn
  refine x_q hg hd hdn (lenV_spec (P := P) ho hx ?_) h
  unfold lenV
  rw [ht]
  cases v with
  | ro l' => simp only [listV, Option.some.injEq] at hl; subst hl; rfl
  | own id =>
    simp only [listV] at hl
    split at hl
    · rename_i hh; injection hl with hl; subst hl; simp only [hh]
    · rename_i hh; injection hl with hl; subst hl; simp only [hh]
    · cases hl
  | _ => cases hl
theorem lit0 : (0 : Int) = ((0 : Nat) : Int) := rfl
theorem lit1 : (1 : Int) = ((1 : Nat) : Int) := rfl
theorem lit2 : (2 : Int) = ((2 : Nat) : Int) := rfl
theorem castp {k : Nat} (h : 0 < k) : (k : Int) - 1 = ((k - 1 : Nat) : Int) := by omega
theorem casts {k j : Nat} (h : j ≤ k) : (k : Int) - (j : Int) = ((k - j : Nat) : Int) := by omega
theorem lit3 : (3 : Int) = ((3 : Nat) : Int) := rfl
/-- one whose indexes are to be shown in bounds -/
theorem s_i {v u : V} {d : Nat} (hg : guardV env ops o.guard = some true := by rfl) (hd : o.dst = some d := by rfl) (hdn : Nat.blt d nt = true := by rfl)
    (hq : QStep P [] o ⟨env, heap, next, nt⟩ v := by
      first
        | exact q_index_ro rfl rfl rfl (by first | exact lit0 | exact lit1 | exact lit2 | exact lit3 | rfl | exact castp (by omega) | exact casts (by omega) | exact (Int.toNat_of_nonneg (by omega)).symm) (by first | omega | (simp only [List.length_map]; omega)) rfl rfl rfl (eAt_map _ (by omega))
        | exact q_index_row rfl rfl rfl rfl (by first | exact lit0 | exact lit1 | exact lit2 | exact lit3 | rfl | exact castp (by omega) | exact casts (by omega) | exact (Int.toNat_of_nonneg (by omega)).symm) (by first | omega | (simp only [List.length_map, List.length_append, List.length_cons, List.length_nil]; omega)) rfl rfl
        | exact q_load_one rfl rfl rfl (reads_row rfl (by first | omega | (simp only [List.length_map]; omega)) rfl (eAt_map _ (by omega))) rfl
        | exact q_load_agg rfl rfl rfl rfl (reads_row rfl (by first | omega | (simp only [List.length_map]; omega)) rfl (eAt_map _ (by omega))) (Nat.le_of_ble_eq_true rfl)
        | exact q_shl rfl rfl rfl (by omega)
        | exact q_shr rfl rfl rfl (by omega)
        | exact q_quo rfl rfl rfl (by omega)
        | exact q_rem rfl rfl rfl (by omega)
        | exact q_index_str rfl rfl rfl rfl (by omega) rfl
        | exact q_index_arr rfl rfl rfl rfl rfl (by omega) rfl
        | exact q_str_add rfl rfl rfl (by omega))
    (hN : NormV v u := by first | (apply NormV.agg; repeat' first | exact Norm.nil | apply Norm.cons) | (apply NormV.rp; repeat' first | exact Norm.nil | apply Norm.cons) | exact NormV.same)
    (h : RunL P n0 ops.toArray rest ⟨(d, u) :: env, heap, next, nt⟩ Q) : RunL P n0 ops.toArray (o :: rest) ⟨env, heap, next, nt⟩ Q := x_q hg hd hdn (by rw [← hN.eq]; exact hq) h
theorem s_cmp {p : Prop} {d : Nat} (hq : cmpV env o.op = some p := by rfl) (hg : guardV env ops o.guard = some true := by rfl) (hd : o.dst = some d := by rfl) (hdn : Nat.blt d nt = true := by rfl)
    (ht : p → RunL P n0 ops.toArray rest ⟨(d, .lit (.bool true)) :: env, heap, next, nt⟩ Q) (hf : ¬ p → RunL P n0 ops.toArray rest ⟨(d, .lit (.bool false)) :: env, heap, next, nt⟩ Q) : RunL P n0 ops.toArray (o :: rest) ⟨env, heap, next, nt⟩ Q := by
  by_cases hp : p
  · exact x_q hg hd hdn ((cmpV_spec (st := ⟨env, heap, next, nt⟩) hq).1 hp) (ht hp)
  · exact x_q hg hd hdn ((cmpV_spec (st := ⟨env, heap, next, nt⟩) hq).2 hp) (hf hp)
theorem s_nw {k : IntKind} {r : Int} {d : Nat} (hq : rawV env P o.op = some (k, r) := by rfl) (hg : guardV env ops o.guard = some true := by rfl) (hr : k.wrap r = r := by first | (rw [IntKind.wrap_i64]; omega) | (rw [IntKind.wrap_u64]; omega) | (rw [IntKind.wrap_u8]; omega))
    (hd : o.dst = some d := by rfl) (hdn : Nat.blt d nt = true := by rfl) (h : RunL P n0 ops.toArray rest ⟨(d, .lit (.int k r)) :: env, heap, next, nt⟩ Q) : RunL P n0 ops.toArray (o :: rest) ⟨env, heap, next, nt⟩ Q :=
  x_q hg hd hdn (by have := rawV_spec (st := ⟨env, heap, next, nt⟩) (P := P) (G := []) hq; rw [hr] at this; exact this) h

/-- new memory -/
theorem s_alloc {T : TypeId} {d : Nat} {cs ds : List V} (ho : o.op = .alloc T := by rfl) (hg : guardV env ops o.guard = some true := by rfl) (hd : o.dst = some d := by rfl) (hdn : Nat.blt d nt = true := by rfl) (hn0 : Nat.ble n0 next = true := by rfl) (hz : zeroT P T = some cs := by rfl) (hN : Norm cs ds := by repeat' first | exact Norm.nil | apply Norm.cons)
    (h : RunL P n0 ops.toArray rest ⟨(d, .ptr next 0 0 0) :: env, (next, some (.box T ds)) :: heap, next + 1, nt⟩ Q) : RunL P n0 ops.toArray (o :: rest) ⟨env, heap, next, nt⟩ Q := by
  have e := hN.eq
  subst e
  exact l_g hg (g_alloc (st := ⟨env, heap, next, nt⟩) ho hd hdn hn0 hz) h
theorem s_box {T : TypeId} {d : Nat} {x : Operand} {v : V} {cs ds : List V} (ho : o.op = .box T x := by rfl) (hg : guardV env ops o.guard = some true := by rfl) (hd : o.dst = some d := by rfl) (hdn : Nat.blt d nt = true := by rfl) (hn0 : Nat.ble n0 next = true := by rfl) (hx : opE env x = some v := by rfl) (hf : flat v = some cs := by rfl) (hN : Norm cs ds := by repeat' first | exact Norm.nil | apply Norm.cons)
    (h : RunL P n0 ops.toArray rest ⟨(d, .ptr next 0 0 0) :: env, (next, some (.box T ds)) :: heap, next + 1, nt⟩ Q) : RunL P n0 ops.toArray (o :: rest) ⟨env, heap, next, nt⟩ Q := by
  have e := hN.eq
  subst e
  exact l_g hg (g_box (st := ⟨env, heap, next, nt⟩) ho hd hdn hn0 hx hf) h
theorem s_store {T : TypeId} {x y : Operand} {id s j t : Nat} {cs vs ds : List V} {v : V} (ho : o.op = .store T x y := by rfl) (hg : guardV env ops o.guard = some true := by rfl) (hd : o.dst = none := by rfl) (hx : opE env x = some (.ptr id 0 s j) := by rfl) (hh : getH heap id = some (.box t cs) := by rfl) (hy : opE env y = some v := by rfl)
    (hf : flat v = some vs := by rfl) (hT : sizeT P T = some vs.length := by rfl) (hl : Nat.ble (j + vs.length) cs.length = true := by rfl) (hN : Norm (setAt j vs cs) ds := by repeat' first | exact Norm.nil | apply Norm.cons)
    (h : RunL P n0 ops.toArray rest ⟨env, (id, some (.box t ds)) :: heap, next, nt⟩ Q) : RunL P n0 ops.toArray (o :: rest) ⟨env, heap, next, nt⟩ Q := by
  have e := hN.eq
  subst e
  exact l_g hg (g_store_box (st := ⟨env, heap, next, nt⟩) ho hd hx hh hy hf hT hl) h
/-- a call by a contract -/
theorem s_call {f : FuncId} {xs : Array Operand} {ts : Array TypeId} {vs vs' : List V} {r : V} {d : Nat} (hf : Fn P f vs' r) (ho : o.op = .call { callee := .value (.func f), args := xs, argTypes := ts } := by rfl) (hg : guardV env ops o.guard = some true := by rfl) (hd : o.dst = some d := by rfl) (hdn : Nat.blt d nt = true := by rfl)
    (hx : argsE env xs.toList = some vs := by rfl) (hb : belowV.belowL 0 vs = true := by rfl) (hw : WkL vs vs' := by ((repeat' (first | exact WkL.nil | refine WkL.cons ?_ ?_ | exact Wk.refl _ | exact Wk.nil | refine Wk.agg ?_ | refine Wk.tup ?_)); first | done | fail "args")) (h : RunL P n0 ops.toArray rest ⟨(d, r) :: env, heap, next, nt⟩ Q) : RunL P n0 ops.toArray (o :: rest) ⟨env, heap, next, nt⟩ Q :=
  l_g hg (g_call (st := ⟨env, heap, next, nt⟩) ho (by rw [hd]; exact hdn) hx hb (fn_weak hf hw)) (by rw [hd]; exact h)
/-- a call that answers yes or no -/
theorem s_ask {f : FuncId} {xs : Array Operand} {ts : Array TypeId} {vs vs' : List V} {b : Bool} {d : Nat} (hf : Fn P f vs' (.lit (.bool b))) (ho : o.op = .call { callee := .value (.func f), args := xs, argTypes := ts } := by rfl) (hg : guardV env ops o.guard = some true := by rfl) (hd : o.dst = some d := by rfl) (hdn : Nat.blt d nt = true := by rfl)
    (hx : argsE env xs.toList = some vs := by rfl) (hb : belowV.belowL 0 vs = true := by rfl) (hw : WkL vs vs' := by ((repeat' (first | exact WkL.nil | refine WkL.cons ?_ ?_ | exact Wk.refl _ | exact Wk.nil | refine Wk.agg ?_ | refine Wk.tup ?_)); first | done | fail "args")) (ht : b = true → RunL P n0 ops.toArray rest ⟨(d, .lit (.bool true)) :: env, heap, next, nt⟩ Q) (hff : b = false → RunL P n0 ops.toArray rest ⟨(d, .lit (.bool false)) :: env, heap, next, nt⟩ Q) : RunL P n0 ops.toArray (o :: rest) ⟨env, heap, next, nt⟩ Q := by
  cases b
  · exact s_call hf ho hg hd hdn hx hb hw (hff rfl)
  · exact s_call hf ho hg hd hdn hx hb hw (ht rfl)
end

section
variable {P : Program} {n0 : Nat} {st st' : St}
theorem cov_int {env : List (Nat × V)} {t : Nat} {k : IntKind} {m n : Int} (h : getE env t = some (.lit (.int k m))) (hm : m = n) : getE env t = some (.lit (.int k n)) := by rw [h, hm]
/-- from what is known to the state at a loop's head, or behind a cut -/
theorem less_to (hc : coverE st.env st'.env := by repeat' (first | exact True.intro | exact rfl | exact cov_int rfl (by first | rfl | omega | (dsimp only; omega)) | refine And.intro ?_ ?_)) (hh : coverH st.heap st'.heap := by repeat' (first | exact True.intro | exact rfl | refine And.intro ?_ ?_))
    (hn : Nat.ble st'.next st.next = true := by rfl) (hn0 : Nat.ble n0 st'.next = true := by rfl) (he : belowE st'.next st'.env = true := by rfl) (hb : belowH st'.next st'.heap = true := by rfl) (hnt : st'.nt = st.nt := by rfl) : Less P n0 st st' := by
  have h1 : Less P n0 st { env := st'.env, heap := st'.heap, next := st.next, nt := st'.nt } := less_heap rfl hnt hc hh
  have h2 : Less P n0 { env := st'.env, heap := st'.heap, next := st.next, nt := st'.nt } { env := st'.env, heap := st'.heap, next := st'.next, nt := st'.nt } := less_cut st'.next hn0 hn he hb
  exact h1.trans h2
/-- a loop: at its head one of the states σ x, and Φ x -/
theorem r_for {X : Type} {c : Code} {Q : Exit → St → Prop} (σ : X → St) (Φ : X → Prop) (μ : X → Nat) (x0 : X) (hx : Φ x0) (h0 : Less P n0 st (σ x0))
    (round : ∀ x, Φ x → Run P n0 c (σ x) (ThenQ (fun st' => ∃ x', μ x' < μ x ∧ Φ x' ∧ Less P n0 st' (σ x')) Q)) : Run P n0 (.loop c) st Q :=
  r_loop (X := {x : X // Φ x}) (fun x => σ x.1) (fun x => μ x.1) ⟨x0, hx⟩ h0 (fun x => r_mono (round x.1 x.2) (fun e st' hq => by
    cases e with
    | normal => obtain ⟨x', h1, h2, h3⟩ := hq; exact ⟨⟨x', h2⟩, h1, h3⟩
    | _ => exact hq))
/-- a cut: behind x one of the states σ z -/
theorem r_cut {Z : Type} {x y : Code} {Q : Exit → St → Prop} (σ : Z → St) (Φ : Z → Prop) (h : Run P n0 x st (ThenQ (fun st' => ∃ z, Φ z ∧ Less P n0 st' (σ z)) Q)) (h2 : ∀ z, Φ z → Run P n0 y (σ z) Q) : Run P n0 (.seq x y) st Q := by
  refine r_seq (r_mono h (fun e st' hq => ?_))
  cases e with
  | normal =>
    obtain ⟨z, hz, hl⟩ := hq
    exact r_less hl (h2 z hz)
  | _ => exact hq
theorem thenQ_n {next : St → Prop} {Q : Exit → St → Prop} (h : next st) : ThenQ next Q .normal st := h
theorem thenQ_r {next : St → Prop} {Q : Exit → St → Prop} (h : Q .ret st) : ThenQ next Q .ret st := h
theorem thenQ_e {next : St → Prop} {Q : Exit → St → Prop} {i : Nat} (h : Q (.exit i) st) : ThenQ next Q (.exit i) st := h
theorem blockQ_n {id : Nat} {Q : Exit → St → Prop} (h : Q .normal st) : BlockQ id Q .normal st := h
theorem blockQ_r {id : Nat} {Q : Exit → St → Prop} (h : Q .ret st) : BlockQ id Q .ret st := h
theorem blockQ_x {id : Nat} {Q : Exit → St → Prop} (h : Q .normal st) : BlockQ id Q (.exit id) st := by simp only [BlockQ, Nat.beq_refl, cond_true]; exact h
theorem blockQ_e {id i : Nat} {Q : Exit → St → Prop} (hn : Nat.beq i id = false) (h : Q (.exit i) st) : BlockQ id Q (.exit i) st := by simp only [BlockQ, hn, cond_false]; exact h
theorem beta_ {p : Prop} (h : p) : p := h
/-- the answer -/
theorem ends_ {fn : Func} {r r' v : V} {e : Exit} (he : e = .ret ∨ e = .normal := by first | exact .inl rfl | exact .inr rfl) (hv : resV P st fn.results.toList = some v := by rfl) (hs : snapV st.heap v = some r' := by rfl) (hr : r' = r) : Ends P fn r e st := ⟨he, v, r', hv, hs, by rw [hr]; exact .refl _⟩
theorem endw_ {fn : Func} {r r' v : V} {e : Exit} (he : e = .ret ∨ e = .normal := by first | exact .inl rfl | exact .inr rfl) (hv : resV P st fn.results.toList = some v := by rfl) (hs : snapV st.heap v = some r' := by rfl) (hr : Wk r' r) : Ends P fn r e st := ⟨he, v, r', hv, hs, hr⟩
end
end Go.Proofs.Ytnbbnedpjfanoaa
