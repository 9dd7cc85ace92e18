/-
  A VALUE CALCULUS OVER THE MODEL, part 12: bytes and strings, parts of slices and strings, pointers that are looked at. Plain lemmas, over any program.
-/
import Derived.Test.YtnbbnedpjfanoaaAbs11
set_option linter.unusedVariables false
set_option linter.unusedSimpArgs false
set_option linter.unusedVariables false
namespace Go.Proofs.Ytnbbnedpjfanoaa
open Go.RowKit

def strB (l : List UInt8) : ByteArray := ⟨l.toArray⟩
theorem strB_size (l : List UInt8) : (strB l).size = l.length := by simp [strB, ByteArray.size]
theorem strB_self (s : ByteArray) : strB s.data.toList = s := by cases s; simp [strB]
theorem strB_list (l : List UInt8) : (strB l).data.toList = l := by simp [strB]
theorem strB_inj {l m : List UInt8} : strB l = strB m ↔ l = m := ⟨fun h => by rw [← strB_list l, h, strB_list], fun h => by rw [h]⟩
theorem strB_append (l m : List UInt8) : strB l ++ strB m = strB (l ++ m) := by apply ByteArray.ext; simp [strB]
def encB (c : UInt8) : List V := [.lit (.int .u8 (c.toNat : Int))]
/-- whether p -/
noncomputable def yes (p : Prop) : Bool := @decide p (Classical.propDecidable p)
theorem yes_t {p : Prop} : yes p = true ↔ p := by unfold yes; exact @decide_eq_true_iff p (Classical.propDecidable p)
theorem yes_f {p : Prop} : yes p = false ↔ ¬ p := by unfold yes; exact @decide_eq_false_iff_not p (Classical.propDecidable p)
theorem no_of {p : Prop} (h : ¬ p) : yes p = false := yes_f.2 h
theorem yes_of {p : Prop} (h : p) : yes p = true := yes_t.2 h
theorem yesV {p : Prop} (h : p) : V.lit (.bool true) = .lit (.bool (yes p)) := by rw [yes_of h]
theorem noV {p : Prop} (h : ¬ p) : V.lit (.bool false) = .lit (.bool (yes p)) := by rw [no_of h]
section
variable {P : Program} {G : List Nat} {o : Oper} {st : St}

theorem q_bool_eql {T yt : TypeId} {x y : Operand} {m n : Bool} (ho : o.op = .binOp .eql T x y yt) (hx : opE st.env x = some (.lit (.bool m))) (hy : opE st.env y = some (.lit (.bool n))) (hT : P.underlying T = some .bool) :
    QStep P G o st (.lit (.bool (decide (m = n)))) := q_bin ho hx hy (fun w => by
      have := run_equalIn_bool (P := P) w 9999 T m n hT
      have e : (m == n) = decide (m = n) := by cases m <;> cases n <;> rfl
      rw [e] at this
      simp [eqGuard, binOp, Op.equal, Op.maxDepth, Sem.run_bind, Sem.run_pure, this]) rfl
theorem q_bool_neq {T yt : TypeId} {x y : Operand} {m n : Bool} (ho : o.op = .binOp .neq T x y yt) (hx : opE st.env x = some (.lit (.bool m))) (hy : opE st.env y = some (.lit (.bool n))) (hT : P.underlying T = some .bool) :
    QStep P G o st (.lit (.bool (decide (¬ m = n)))) := q_bin ho hx hy (fun w => by
      have := run_equalIn_bool (P := P) w 9999 T m n hT
      have e : (m == n) = decide (m = n) := by cases m <;> cases n <;> rfl
      rw [e] at this
      simp [eqGuard, binOp, Op.equal, Op.maxDepth, Sem.run_bind, Sem.run_pure, this]) rfl
theorem Ext.none {w w' : World} {ρ : Nat → Option Value} (h : Ext (GB ρ []) w w') : Same (fun _ => True) w w' := fun b _ hb => h.block b hb (fun ⟨id, _, hm, _⟩ => by cases hm)

/-! ### Bytes to a string -/
theorem q_bstr {T U e : TypeId} {x : Operand} {v : V} {l : List UInt8} (ho : o.op = .convert T U x) (hx : opE st.env x = some v) (hv : srcV st.heap v = some (l.map encB)) (hT : P.underlying T = some (.slice e)) (he : P.underlying e = some (.int .u8)) (hU : P.underlying U = some .string) :
    QStep P [] o st (.lit (.string (strB l))) := fun F base w0 ρ a w hH hE _ => by
  refine ⟨_, .pure (.lit _ rfl), fun w' hw' => ?_⟩
  unfold execOp; rw [ho]; simp only []
  have hl : ∀ i, i < (l.map encB).length → (eAt (l.map encB) i).length = 1 := fun i hi => by
    rw [List.length_map] at hi
    rw [eAt_map encB hi]; rfl
  obtain ⟨A, c, news, hu, hnl, hA, hrel⟩ := src_spec (F := F) (base := base) (w0 := w0) (next := st.next) (ρ := ρ) (heap := st.heap) hH (opE_sound hE hx) hv hl (by omega)
  rw [hu]
  simp only [List.length_map, Nat.mul_one] at hnl hA hrel ⊢
  have hcell : ∀ j (hj : j < l.length) (a0 : Addr), A = some a0 → (∀ j u, news[j]? = some u → w.cell? (a0.add j) = some u) → w'.cell? (a0.add j) = some (.int .u8 (l[j].toNat : Int)) := by
    intro j hj a0 ha hn
    obtain ⟨u, h1, h2⟩ := hrel j 0 hj (by omega)
    simp only [Nat.add_zero] at h1
    have hc := hn j u h1
    have hj2 : l.getD j default = l[j] := by rw [List.getD_eq_getElem?_getD, List.getElem?_eq_getElem hj]; rfl
    rw [eAt_map encB hj, hj2] at h2
    have e : cAt (encB l[j]) 0 = .lit (.int .u8 (l[j].toNat : Int)) := rfl
    rw [e] at h2
    cases h2
    have hbl := World.block_lt_of_cell? w _ hc
    have := hw'.none _ trivial hbl
    rw [← hc]
    simp [World.cell?, this]
  by_cases h0 : l.length = 0
  · have : l = [] := List.eq_nil_of_length_eq_zero h0
    subst this
    rw [Sem.run_bind, run_convert_bytes_string w' T U e A _ _ hT he hU]
    cases A with
    | none => rfl
    | some a0 =>
      have := run_bytesToString (P := P) w' a0 0 c [] (by have := run_loadCells_list (P := P) (w := w') a0 [] (fun j v hj => by simp at hj); simpa using this)
      simp only [List.length_nil] at this ⊢
      rw [this]; rfl
  · rcases hA with hA | ⟨a0, ha, hn⟩
    · omega
    · subst ha
      simp only [Sem.run_bind, run_convert_bytes_back w' T U e a0 c l hT he hU (fun j hj => hcell j hj a0 rfl hn)]; rfl

/-! ### Parts of slices and strings -/
theorem eAt_drop (l : List (List V)) (m i : Nat) : eAt (l.drop m) i = eAt l (m + i) := by
  unfold eAt; rw [List.getD_eq_getElem?_getD, List.getD_eq_getElem?_getD, List.getElem?_drop]
theorem eAt_take (l : List (List V)) {n i : Nat} (h : i < n) : eAt (l.take n) i = eAt l i := by
  unfold eAt; rw [List.getD_eq_getElem?_getD, List.getD_eq_getElem?_getD, List.getElem?_take, if_pos h]
/-- a part of what nobody writes -/
theorem ro_part {S : Nat → Prop} {w : World} {l : List (List V)} {u : Value} {s m n c' : Nat} (h : PRel S w (.ro l) u) (hmn : m ≤ n) (hn : n ≤ l.length) (hc : ∀ A L c, u = .slice A L c → n ≤ c' ∧ c' ≤ c) (hs : ∀ i, i < l.length → (eAt l i).length = s) :
    ∃ A L c, u = .slice A L c ∧ L = l.length ∧ L ≤ c ∧ PRel S w (.ro ((l.take n).drop m)) (sliced A m n c' s) := by
  generalize hv : V.ro l = v at h
  cases h with
  | lit => cases hv
  | ro l' A c s' b off us hcap hm hp hA hsz hcell hrel =>
    injection hv with hv; subst hv
    obtain ⟨c1, c2⟩ := hc _ _ _ rfl
    refine ⟨A, _, c, rfl, rfl, hcap, ?_⟩
    have hlen : ((l.take n).drop m).length = n - m := by simp; omega
    have he : ∀ i, i < n - m → eAt ((l.take n).drop m) i = eAt l (m + i) := fun i hi => by rw [eAt_drop, eAt_take l (by omega)]
    unfold sliced
    by_cases h0 : 0 < n - m
    · have hl0 : 0 < l.length := by omega
      obtain ⟨hA1, hA2⟩ := hA hl0
      have es : s' = s := by rw [← hsz 0 hl0, hs 0 hl0]
      subst es
      subst hA1
      have hne : ¬ c' = m := by omega
      rw [if_neg hne]
      have e : (Option.map (fun x => Addr.add x (m * s')) (some (Addr.mk b off none))) = some ⟨b, off + m * s', none⟩ := by simp [add_addr]
      rw [e]
      have := PRel.ro (S := S) (w := w) ((l.take n).drop m) (some ⟨b, off + m * s', none⟩) (c' - m) s' b (off + m * s') (fun i j => us (m + i) j) (by rw [hlen]; omega) (by unfold maxLen at *; omega) hp (fun _ => ⟨rfl, hA2⟩)
        (fun i hi => by rw [hlen] at hi; rw [he i hi]; exact hsz _ (by omega))
        (fun i j hi hj => by
          rw [hlen] at hi
          have := hcell (m + i) j (by omega) hj
          rw [Nat.add_mul] at this
          rw [← this]; congr 2; omega)
        (fun i j hi hj => by rw [hlen] at hi; rw [he i hi]; exact hrel _ _ (by omega) hj)
      rwa [hlen] at this
    · have hnil : (l.take n).drop m = [] := List.eq_nil_of_length_eq_zero (by omega)
      have hz : n - m = 0 := by omega
      rw [hnil, hz]
      exact .ro [] _ (c' - m) 1 0 0 (fun _ _ => undef) (by simp) (by unfold maxLen at *; omega) (by omega) (fun h => by simp at h) (fun i hi => by simp at hi) (fun i j hi => by simp at hi) (fun i j hi => by simp at hi)

def boundE (env : List (Nat × V)) : Option Operand → Option (Option Int)
  | none => some none
  | some y => match opE env y with
    | some (.lit (.int _ n)) => some (some n)
    | _ => none
theorem elemP {t e : TypeId} (ht : P.underlying t = some (.slice e)) : P.elem t = e := by
  unfold Program.elem; rw [ht]
/-- what a slice of data reads as -/
def roV (heap : List (Nat × Option Blk)) : V → Option (List (List V))
  | .ro l => some l
  | .lit (.slice none 0 0) => some []
  | .own id => match getH heap id with
    | some (.fro l) => some l
    | _ => none
  | _ => none
theorem roV_spec {F : Nat → Prop} {base : Nat → Prop} {ρ : Nat → Option Value} {heap : List (Nat × Option Blk)} {next : Nat} {w0 w : World} (hH : HRel0 F base ρ heap next w0 w) {v : V} {u : Value} (h : VRel ρ (Stab F ρ heap) w v u) {l : List (List V)} (hv : roV heap v = some l) : PRel (Stab F ρ heap) w (.ro l) u := by
  unfold roV at hv
  split at hv
  · injection hv with hv; subst hv
    cases h with
    | pure h => exact h
  · injection hv with hv; subst hv
    rw [lit_inv h]
    exact .ro [] none 0 1 0 0 (fun _ _ => undef) (by simp) (by unfold maxLen; omega) (by omega) (fun h => by simp at h) (fun i hi => by simp at hi) (fun i j hi => by simp at hi) (fun i j hi => by simp at hi)
  · split at hv
    · rename_i hh
      injection hv with hv; subst hv
      obtain ⟨v, h1, h2, _⟩ := hH.blk _ _ hh
      rw [own_inv h] at h1; injection h1 with h1; subst h1
      exact h2
    · cases hv
  · cases hv
/-- a bound: none, or this one -/
inductive Bnd : Option Value → Nat → Nat → Prop
  | none (d : Nat) : Bnd none d d
  | some (k : IntKind) (n d : Nat) : Bnd (some (.int k n)) d n
theorem run_slice_bnd {t e s m n len cap : Nat} {A : Option Addr} {lo hi : Option Value} (ht : P.underlying t = some (.slice e)) (hs : sizeT P e = some s) (hlo : Bnd lo 0 m) (hhi : Bnd hi len n) (hmn : m ≤ n) (hn : n ≤ cap) (w : World) :
    (Instr.sliceAt t (.slice A len cap) lo hi none).run P w = .ok (sliced A m n cap s) w := by
  have he := elemP ht
  have ht' : P.underlying t = some (.slice (P.elem t)) := by rw [he]; exact ht
  have hs' : (sizeOf (P.elem t)).run P w = .ok s w := by rw [he]; exact run_sizeT hs w
  rw [run_sliceAt_slice w t _ _ _ _ ht']
  cases hlo with
  | none =>
    cases hhi with
    | none => rw [run_slice_all w t A _ cap ht', hs']; rfl
    | some k n => rw [run_slice_h w t A len cap ht' k n (by omega) (by omega), hs']; simp [Result.andThen]
  | some k m =>
    cases hhi with
    | none => rw [run_slice_l w t A _ cap ht' k m (by omega) (by omega), hs']; simp [Result.andThen]
    | some k' n => rw [run_slice_lh w t A len cap ht' k k' m n (by omega) (by omega) (by omega), hs']; simp [Result.andThen]
theorem run_slice_max {t e s m n c' len cap : Nat} {k : IntKind} {A : Option Addr} {lo hi : Option Value} (ht : P.underlying t = some (.slice e)) (hs : sizeT P e = some s) (hlo : Bnd lo 0 m) (hhi : Bnd hi len n) (hhs : hi.isSome = true) (hmn : m ≤ n) (hn : n ≤ c') (hc : c' ≤ cap) (w : World) :
    (Instr.sliceAt t (.slice A len cap) lo hi (some (.int k c'))).run P w = .ok (sliced A m n c' s) w := by
  have he := elemP ht
  have ht' : P.underlying t = some (.slice (P.elem t)) := by rw [he]; exact ht
  have hs' : (sizeOf (P.elem t)).run P w = .ok s w := by rw [he]; exact run_sizeT hs w
  rw [run_sliceAt_slice w t _ _ _ _ ht']
  cases hhi with
  | none => cases hhs
  | some k' n =>
    cases hlo with
    | none => rw [run_slice_hm w t A len cap ht' k' k n c' (by omega) (by omega) (by omega), hs']; simp [Result.andThen]
    | some k2 m => rw [run_slice_lhm w t A len cap ht' k2 k' k m n c' (by omega) (by omega) (by omega) (by omega), hs']; simp [Result.andThen]
theorem bnd_of {ρ : Nat → Option Value} {S : Nat → Prop} {w : World} {nt : Nat} {env : List (Nat × V)} {a : Act} (hE : ERel ρ S w nt env a) {o : Option Operand} {b : Option Int} {m d : Nat} (h : boundE env o = some b) (hb : b.getD d = (m : Int)) : Bnd (o.map a.eval) d m := by
  cases o with
  | none =>
    simp only [boundE, Option.some.injEq] at h
    subst h
    simp only [Option.getD_none] at hb
    have : d = m := by omega
    subst this
    exact .none d
  | some y =>
    simp only [boundE] at h
    split at h
    · rename_i k n hy
      injection h with h; subst h
      simp only [Option.getD_some] at hb
      subst hb
      rw [Option.map_some, lit_inv (opE_sound hE hy)]
      exact .some _ _ _
    · cases h
theorem q_slice {t e s m n : Nat} {x : Operand} {lo hi : Option Operand} {v : V} {l : List (List V)} {a b : Option Int} (ho : o.op = .slice t x lo hi none) (hx : opE st.env x = some v) (hv : roV st.heap v = some l) (hlo : boundE st.env lo = some a) (hhi : boundE st.env hi = some b)
    (ht : P.underlying t = some (.slice e)) (hs : sizeT P e = some s) (hsl : ∀ i, i < l.length → (eAt l i).length = s) (ha : a.getD 0 = (m : Int)) (hb : b.getD l.length = (n : Int)) (hmn : m ≤ n) (hn : n ≤ l.length) : QStep P G o st (.ro ((l.take n).drop m)) :=
  q_of_run fun F base w0 ρ ac w hH hE => by
    have hp := roV_spec hH (opE_sound hE hx) hv
    have hex : ∃ A L c, ac.eval x = .slice A L c ∧ L = l.length ∧ L ≤ c := by
      generalize ac.eval x = u at hp
      cases hp with
      | ro => exact ⟨_, _, _, rfl, rfl, by assumption⟩
    obtain ⟨A, L, c, hu, hL, hLc⟩ := hex
    subst hL
    obtain ⟨A', L', c'', hu', _, _, hr⟩ := ro_part (c' := c) hp hmn hn (fun A0 L0 c0 h0 => by rw [hu] at h0; injection h0 with _ _ h0; subst h0; exact ⟨by omega, Nat.le_refl _⟩) hsl
    rw [hu] at hu'; injection hu' with e1 e2 e3; subst e1
    refine ⟨_, .pure hr, fun w' => ?_⟩
    unfold execOp; rw [ho]; simp only [Option.map_none]; rw [hu]
    simp only [Sem.run_bind, run_slice_bnd ht hs (bnd_of hE hlo ha) (bnd_of hE hhi hb) hmn (show n ≤ c by omega) w']; rfl
theorem q_sliceM {t e s m n c' : Nat} {x z : Operand} {lo hi : Option Operand} {v : V} {l : List (List V)} {a b : Option Int} {kc : IntKind} {zc : Int} (ho : o.op = .slice t x lo hi (some z)) (hx : opE st.env x = some v) (hv : roV st.heap v = some l) (hlo : boundE st.env lo = some a) (hhi : boundE st.env hi = some b) (hhs : hi.isSome = true) (hz : opE st.env z = some (.lit (.int kc zc)))
    (ht : P.underlying t = some (.slice e)) (hs : sizeT P e = some s) (hsl : ∀ i, i < l.length → (eAt l i).length = s) (ha : a.getD 0 = (m : Int)) (hb : b.getD l.length = (n : Int)) (hc : zc = (c' : Int)) (hmn : m ≤ n) (hn : n ≤ c') (hcl : c' ≤ l.length) : QStep P G o st (.ro ((l.take n).drop m)) :=
  q_of_run fun F base w0 ρ ac w hH hE => by
    subst hc
    have hp := roV_spec hH (opE_sound hE hx) hv
    have hex : ∃ A L c, ac.eval x = .slice A L c ∧ L = l.length ∧ L ≤ c := by
      generalize ac.eval x = u at hp
      cases hp with
      | ro => exact ⟨_, _, _, rfl, rfl, by assumption⟩
    obtain ⟨A, L, c, hu, hL, hLc⟩ := hex
    subst hL
    obtain ⟨A', L', c'', hu', _, _, hr⟩ := ro_part (c' := c') hp hmn (by omega) (fun A0 L0 c0 h0 => by rw [hu] at h0; injection h0 with _ _ h0; subst h0; exact ⟨hn, by omega⟩) hsl
    rw [hu] at hu'; injection hu' with e1 e2 e3; subst e1
    refine ⟨_, .pure hr, fun w' => ?_⟩
    unfold execOp; rw [ho]; simp only [Option.map_some]; rw [hu, lit_inv (opE_sound hE hz)]
    simp only [Sem.run_bind, run_slice_max ht hs (bnd_of hE hlo ha) (bnd_of hE hhi hb) (by simpa using hhs) hmn hn (show c' ≤ c by omega) w']; rfl
/-- a part of a string -/
theorem run_slice_sbnd {t m n : Nat} {str : ByteArray} {lo hi : Option Value} (ht : P.underlying t = some .string) (hlo : Bnd lo 0 m) (hhi : Bnd hi str.size n) (hmn : m ≤ n) (hn : n ≤ str.size) (w : World) :
    (Instr.sliceAt t (.string str) lo hi none).run P w = .ok (.string (str.extract m n)) w := by
  rw [run_sliceAt_string w t _ _ _ _ ht]
  have hb : ∀ (k : IntKind) (i y : Nat) (c : BoundsCode), i ≤ y → (Instr.sliceBound (.int k i) y c).run P w = .ok i w := fun k i y c h => by
    have := run_sliceBound (P := P) w k (i : Int) y c (by omega) (by omega)
    simpa using this
  cases hlo with
  | none =>
    cases hhi with
    | none => simp [Instr.slice, run_underlying ht, Instr.sliceBounds, Sem.run_bind, Sem.run_pure]
    | some k n => simp [Instr.slice, run_underlying ht, Instr.sliceBounds, Sem.run_bind, Sem.run_pure, hb k n _ _ hn]
  | some k m =>
    cases hhi with
    | none => simp [Instr.slice, run_underlying ht, Instr.sliceBounds, Sem.run_bind, Sem.run_pure, hb k m _ _ hmn]
    | some k' n => simp [Instr.slice, run_underlying ht, Instr.sliceBounds, Sem.run_bind, Sem.run_pure, hb k m _ _ hmn, hb k' n _ _ hn]
theorem q_slice_str {t m n : Nat} {x : Operand} {lo hi : Option Operand} {l : List UInt8} {a b : Option Int} (ho : o.op = .slice t x lo hi none) (hx : opE st.env x = some (.lit (.string (strB l)))) (hlo : boundE st.env lo = some a) (hhi : boundE st.env hi = some b)
    (ht : P.underlying t = some .string) (ha : a.getD 0 = (m : Int)) (hb : b.getD l.length = (n : Int)) (hmn : m ≤ n) (hn : n ≤ l.length) : QStep P G o st (.lit (.string (strB ((l.take n).drop m)))) :=
  q_of_run fun F base w0 ρ ac w hH hE => by
    have hsz : (strB l).size = l.length := strB_size l
    refine ⟨_, .pure (.lit _ rfl), fun w' => ?_⟩
    unfold execOp; rw [ho]; simp only [Option.map_none]; rw [lit_inv (opE_sound hE hx)]
    have he : (strB l).extract m n = strB ((l.take n).drop m) := by
      apply ByteArray.ext
      simp [strB, ByteArray.data_extract, List.drop_take]
    simp only [Sem.run_bind, run_slice_sbnd ht (bnd_of hE hlo ha) (by have := bnd_of hE hhi hb; rwa [← hsz] at this) hmn (show n ≤ (strB l).size by omega) w', he]; rfl

/-! ### Pointers -/
def isPtr : V → Bool
  | .ptr .. => true
  | .rp _ => true
  | _ => false
theorem q_nilcheck {x : Operand} {v : V} (ho : o.op = .nilCheck x) (hx : opE st.env x = some v) (hv : isPtr v = true) : QStep P G o st v :=
  q_of_run fun F base w0 ρ a w hH hE => by
    have h := opE_sound hE hx
    refine ⟨_, h, fun w' => ?_⟩
    unfold execOp; rw [ho]; simp only []
    cases v with
    | ptr => obtain ⟨r, b, h1, h2, h3⟩ := ptr_inv h; rw [h3]; rfl
    | rp => obtain ⟨b, off, us, h1, _⟩ := rp_inv h; rw [h1]; rfl
    | _ => cases hv

section
variable {n0 : Nat} {ops : List Oper} {rest : List Oper} {env : List (Nat × V)} {heap : List (Nat × Option Blk)} {next nt : Nat} {Q : St → Prop}
theorem s_seql {T yt : TypeId} {x y : Operand} {l m : List UInt8} {d : Nat} (ho : o.op = .binOp .eql T x y yt := by rfl) (hx : opE env x = some (.lit (.string (strB l))) := by rfl) (hy : opE env y = some (.lit (.string (strB m))) := by rfl) (hg : guardV env ops o.guard = some true := by rfl) (hd : o.dst = some d := by rfl) (hdn : Nat.blt d nt = true := by rfl)
    (ht : l = m → RunL P n0 ops.toArray rest ⟨(d, .lit (.bool true)) :: env, heap, next, nt⟩ Q) (hf : ¬ l = m → RunL P n0 ops.toArray rest ⟨(d, .lit (.bool false)) :: env, heap, next, nt⟩ Q) : RunL P n0 ops.toArray (o :: rest) ⟨env, heap, next, nt⟩ Q := by
  have h := q_str_eql (P := P) (G := []) (st := ⟨env, heap, next, nt⟩) ho hx hy
  rw [decide_eq_decide.2 strB_inj] at h
  by_cases hp : l = m
  · rw [decide_eq_true hp] at h; exact x_q hg hd hdn h (ht hp)
  · rw [decide_eq_false hp] at h; exact x_q hg hd hdn h (hf hp)
theorem s_sneq {T yt : TypeId} {x y : Operand} {l m : List UInt8} {d : Nat} (ho : o.op = .binOp .neq T x y yt := by rfl) (hx : opE env x = some (.lit (.string (strB l))) := by rfl) (hy : opE env y = some (.lit (.string (strB m))) := by rfl) (hg : guardV env ops o.guard = some true := by rfl) (hd : o.dst = some d := by rfl) (hdn : Nat.blt d nt = true := by rfl)
    (ht : ¬ l = m → RunL P n0 ops.toArray rest ⟨(d, .lit (.bool true)) :: env, heap, next, nt⟩ Q) (hf : l = m → RunL P n0 ops.toArray rest ⟨(d, .lit (.bool false)) :: env, heap, next, nt⟩ Q) : RunL P n0 ops.toArray (o :: rest) ⟨env, heap, next, nt⟩ Q := by
  have h := q_str_neq (P := P) (G := []) (st := ⟨env, heap, next, nt⟩) ho hx hy
  rw [decide_eq_decide.2 (not_congr strB_inj)] at h
  by_cases hp : l = m
  · rw [decide_eq_false (fun h => h hp)] at h; exact x_q hg hd hdn h (hf hp)
  · rw [decide_eq_true hp] at h; exact x_q hg hd hdn h (ht hp)
theorem s_beq {T yt : TypeId} {x y : Operand} {m n : Bool} {d : Nat} (ho : o.op = .binOp .eql T x y yt := by rfl) (hx : opE env x = some (.lit (.bool m)) := by rfl) (hy : opE env y = some (.lit (.bool n)) := by rfl) (hT : P.underlying T = some .bool := by rfl) (hg : guardV env ops o.guard = some true := by rfl) (hd : o.dst = some d := by rfl) (hdn : Nat.blt d nt = true := by rfl)
    (ht : m = n → RunL P n0 ops.toArray rest ⟨(d, .lit (.bool true)) :: env, heap, next, nt⟩ Q) (hf : ¬ m = n → RunL P n0 ops.toArray rest ⟨(d, .lit (.bool false)) :: env, heap, next, nt⟩ Q) : RunL P n0 ops.toArray (o :: rest) ⟨env, heap, next, nt⟩ Q := by
  have h := q_bool_eql (P := P) (G := []) (st := ⟨env, heap, next, nt⟩) ho hx hy hT
  by_cases hp : m = n
  · rw [decide_eq_true hp] at h; exact x_q hg hd hdn h (ht hp)
  · rw [decide_eq_false hp] at h; exact x_q hg hd hdn h (hf hp)
theorem s_skip0 (hg : guardV env ops o.guard = some false := by rfl) (hd : o.dst = none := by rfl) (h : RunL P n0 ops.toArray rest ⟨env, heap, next, nt⟩ Q) : RunL P n0 ops.toArray (o :: rest) ⟨env, heap, next, nt⟩ Q :=
  l_skip hg (by rw [hd]; rfl) (by rw [hd]; exact h)
/-- a call that answers whether p -/
theorem s_yes {f : FuncId} {xs : Array Operand} {ts : Array TypeId} {vs vs' : List V} {p : Prop} {d : Nat} (hf : Fn P f vs' (.lit (.bool (yes p)))) (ho : o.op = .call { callee := .value (.func f), args := xs, argTypes := ts } := by rfl) (hg : guardV env ops o.guard = some true := by rfl) (hd : o.dst = some d := by rfl) (hdn : Nat.blt d nt = true := by rfl)
    (hx : argsE env xs.toList = some vs := by rfl) (hb : belowV.belowL 0 vs = true := by rfl) (hw : WkL vs vs' := by ((repeat' (first | exact WkL.nil | refine WkL.cons ?_ ?_ | exact Wk.refl _ | exact Wk.nil | refine Wk.agg ?_ | refine Wk.tup ?_)); first | done | fail "args")) (ht : p → RunL P n0 ops.toArray rest ⟨(d, .lit (.bool true)) :: env, heap, next, nt⟩ Q) (hff : ¬ p → RunL P n0 ops.toArray rest ⟨(d, .lit (.bool false)) :: env, heap, next, nt⟩ Q) : RunL P n0 ops.toArray (o :: rest) ⟨env, heap, next, nt⟩ Q :=
  s_ask hf ho hg hd hdn hx hb hw (fun h => ht (yes_t.1 h)) (fun h => hff (yes_f.1 h))
theorem s_nilc {x : Operand} {v : V} {d : Nat} (ho : o.op = .nilCheck x := by rfl) (hx : opE env x = some v := by rfl) (hv : isPtr v = true := by rfl) (hg : guardV env ops o.guard = some true := by rfl) (hd : o.dst = some d := by rfl) (hdn : Nat.blt d nt = true := by rfl)
    (h : RunL P n0 ops.toArray rest ⟨(d, v) :: env, heap, next, nt⟩ Q) : RunL P n0 ops.toArray (o :: rest) ⟨env, heap, next, nt⟩ Q := x_q hg hd hdn (q_nilcheck ho hx hv) h
theorem s_bstr {T U e : TypeId} {x : Operand} {v : V} {l : List UInt8} {d : Nat} (ho : o.op = .convert T U x := by rfl) (hx : opE env x = some v := by rfl) (hv : srcV heap v = some (l.map encB) := by rfl) (hT : P.underlying T = some (.slice e) := by rfl) (he : P.underlying e = some (.int .u8) := by rfl) (hU : P.underlying U = some .string := by rfl)
    (hg : guardV env ops o.guard = some true := by rfl) (hd : o.dst = some d := by rfl) (hdn : Nat.blt d nt = true := by rfl) (h : RunL P n0 ops.toArray rest ⟨(d, .lit (.string (strB l))) :: env, heap, next, nt⟩ Q) : RunL P n0 ops.toArray (o :: rest) ⟨env, heap, next, nt⟩ Q := x_q hg hd hdn (q_bstr ho hx hv hT he hU) h
theorem len1 {l : List UInt8} : ∀ i, i < (l.map encB).length → (eAt (l.map encB) i).length = 1 := fun i hi => by
  rw [List.length_map] at hi; rw [eAt_map encB hi]; rfl
theorem lenf {α : Type} [Inhabited α] {f : α → List V} {l : List α} {s : Nat} (h : ∀ x, (f x).length = s) : ∀ i, i < (l.map f).length → (eAt (l.map f) i).length = s := fun i hi => by
  rw [List.length_map] at hi; rw [eAt_map f hi]; exact h _
/-- a part, from m on and up to n -/
theorem s_slice {α : Type} [Inhabited α] {f : α → List V} {t e s d : Nat} {x : Operand} {lo hi : Option Operand} {v : V} {l r : List α} {a b : Option Int} (m n : Nat) (ha : a.getD 0 = (m : Int)) (hb : b.getD l.length = (n : Int)) (hmn : m ≤ n) (hn : n ≤ l.length) (hr : (l.take n).drop m = r)
    (ho : o.op = .slice t x lo hi none := by rfl) (hx : opE env x = some v := by rfl) (hv : roV heap v = some (l.map f) := by rfl) (hlo : boundE env lo = some a := by rfl) (hhi : boundE env hi = some b := by rfl)
    (ht : P.underlying t = some (.slice e) := by rfl) (hs : sizeT P e = some s := by rfl) (hsl : ∀ x, (f x).length = s := by intro x; rfl)
    (hg : guardV env ops o.guard = some true := by rfl) (hd : o.dst = some d := by rfl) (hdn : Nat.blt d nt = true := by rfl) (h : RunL P n0 ops.toArray rest ⟨(d, .ro (r.map f)) :: env, heap, next, nt⟩ Q) : RunL P n0 ops.toArray (o :: rest) ⟨env, heap, next, nt⟩ Q := by
  have e : ((l.map f).take n).drop m = r.map f := by rw [← hr, List.map_drop, List.map_take]
  refine x_q hg hd hdn ?_ h
  rw [← e]
  exact q_slice (l := l.map f) ho hx hv hlo hhi ht hs (lenf hsl) ha (by rw [List.length_map]; exact hb) hmn (by rw [List.length_map]; exact hn)
theorem s_slice_str {t d : Nat} {x : Operand} {lo hi : Option Operand} {l r : List UInt8} {a b : Option Int} (m n : Nat) (ha : a.getD 0 = (m : Int)) (hb : b.getD l.length = (n : Int)) (hmn : m ≤ n) (hn : n ≤ l.length) (hr : (l.take n).drop m = r)
    (ho : o.op = .slice t x lo hi none := by rfl) (hx : opE env x = some (.lit (.string (strB l))) := by rfl) (hlo : boundE env lo = some a := by rfl) (hhi : boundE env hi = some b := by rfl) (ht : P.underlying t = some .string := by rfl)
    (hg : guardV env ops o.guard = some true := by rfl) (hd : o.dst = some d := by rfl) (hdn : Nat.blt d nt = true := by rfl) (h : RunL P n0 ops.toArray rest ⟨(d, .lit (.string (strB r))) :: env, heap, next, nt⟩ Q) : RunL P n0 ops.toArray (o :: rest) ⟨env, heap, next, nt⟩ Q := by
  subst hr
  exact x_q hg hd hdn (q_slice_str ho hx hlo hhi ht ha hb hmn hn) h
end
section
variable {nt b0 k k' : Nat} {ops : List Oper} {W : Nat → Nat → Bool} {rest : List Oper} {env : List (Nat × V)} {heap : List (Nat × Option Blk)} {Q : St → Prop}
theorem p_seql {T yt : TypeId} {x y : Operand} {l m : List UInt8} {d : Nat} (ho : o.op = .binOp .eql T x y yt := by rfl) (hx : opE (lk (looks ops o) env) x = some (.lit (.string (strB l))) := by rfl) (hy : opE (lk (looks ops o) env) y = some (.lit (.string (strB m))) := by rfl) (hg : guardV (lk (looks ops o) env) ops o.guard = some true := by rfl) (hd : o.dst = some d := by rfl) (hdn : Nat.blt d nt = true := by rfl) (hk : k + 1 = k' := by (simp only [Nat.reduceAdd]; rfl)) (hb : Nat.ble b0 k = true := by rfl)
    (ht : l = m → PL P nt b0 ops W k' rest ((d, .lit (.bool true)) :: env) heap Q) (hf : ¬ l = m → PL P nt b0 ops W k' rest ((d, .lit (.bool false)) :: env) heap Q) : PL P nt b0 ops W k (o :: rest) env heap Q := by
  have h := fun N => q_str_eql (P := P) (G := []) (st := ⟨lk (looks ops o) env, [], N, nt⟩) ho hx hy
  simp only [decide_eq_decide.2 (strB_inj (l := l) (m := m))] at h
  by_cases hp : l = m
  · simp only [decide_eq_true hp] at h; exact y_q hg hd hdn hb hk h (ht hp)
  · simp only [decide_eq_false hp] at h; exact y_q hg hd hdn hb hk h (hf hp)
theorem p_beq {T yt : TypeId} {x y : Operand} {m n : Bool} {d : Nat} (ho : o.op = .binOp .eql T x y yt := by rfl) (hx : opE (lk (looks ops o) env) x = some (.lit (.bool m)) := by rfl) (hy : opE (lk (looks ops o) env) y = some (.lit (.bool n)) := by rfl) (hT : P.underlying T = some .bool := by rfl) (hg : guardV (lk (looks ops o) env) ops o.guard = some true := by rfl) (hd : o.dst = some d := by rfl) (hdn : Nat.blt d nt = true := by rfl) (hk : k + 1 = k' := by (simp only [Nat.reduceAdd]; rfl)) (hb : Nat.ble b0 k = true := by rfl)
    (ht : m = n → PL P nt b0 ops W k' rest ((d, .lit (.bool true)) :: env) heap Q) (hf : ¬ m = n → PL P nt b0 ops W k' rest ((d, .lit (.bool false)) :: env) heap Q) : PL P nt b0 ops W k (o :: rest) env heap Q := by
  have h := fun N => q_bool_eql (P := P) (G := []) (st := ⟨lk (looks ops o) env, [], N, nt⟩) ho hx hy hT
  by_cases hp : m = n
  · simp only [decide_eq_true hp] at h; exact y_q hg hd hdn hb hk h (ht hp)
  · simp only [decide_eq_false hp] at h; exact y_q hg hd hdn hb hk h (hf hp)
theorem p_yes {f : FuncId} {xs : Array Operand} {ts : Array TypeId} {vs vs' : List V} {p : Prop} {d : Nat} (hf : Fn P f vs' (.lit (.bool (yes p)))) (ho : o.op = .call { callee := .value (.func f), args := xs, argTypes := ts } := by rfl) (hg : guardV (lk (looks ops o) env) ops o.guard = some true := by rfl) (hd : o.dst = some d := by rfl) (hdn : Nat.blt d nt = true := by rfl)
    (hx : argsE (lk (looks ops o) env) xs.toList = some vs := by rfl) (hbl : belowV.belowL 0 vs = true := by rfl) (hw : WkL vs vs' := by ((repeat' (first | exact WkL.nil | refine WkL.cons ?_ ?_ | exact Wk.refl _ | exact Wk.nil | refine Wk.agg ?_ | refine Wk.tup ?_)); first | done | fail "args")) (hk : k + 1 = k' := by (simp only [Nat.reduceAdd]; rfl)) (hb : Nat.ble b0 k = true := by rfl) (ht : p → PL P nt b0 ops W k' rest ((d, .lit (.bool true)) :: env) heap Q) (hff : ¬ p → PL P nt b0 ops W k' rest ((d, .lit (.bool false)) :: env) heap Q) : PL P nt b0 ops W k (o :: rest) env heap Q :=
  p_ask hf ho hg hd hdn hx hbl hw hk hb (fun h => ht (yes_t.1 h)) (fun h => hff (yes_f.1 h))
theorem p_nilc {x : Operand} {v : V} {d : Nat} (ho : o.op = .nilCheck x := by rfl) (hx : opE (lk (looks ops o) env) x = some v := by rfl) (hv : isPtr v = true := by rfl) (hg : guardV (lk (looks ops o) env) ops o.guard = some true := by rfl) (hd : o.dst = some d := by rfl) (hdn : Nat.blt d nt = true := by rfl) (hk : k + 1 = k' := by (simp only [Nat.reduceAdd]; rfl)) (hb : Nat.ble b0 k = true := by rfl)
    (h : PL P nt b0 ops W k' rest ((d, v) :: env) heap Q) : PL P nt b0 ops W k (o :: rest) env heap Q := y_q hg hd hdn hb hk (fun N => q_nilcheck ho hx hv) h
theorem p_bstr {T U e : TypeId} {x : Operand} {v : V} {l : List UInt8} {d : Nat} (ho : o.op = .convert T U x := by rfl) (hx : opE (lk (looks ops o) env) x = some v := by rfl) (hv : srcV [] v = some (l.map encB) := by rfl) (hT : P.underlying T = some (.slice e) := by rfl) (he : P.underlying e = some (.int .u8) := by rfl) (hU : P.underlying U = some .string := by rfl)
    (hg : guardV (lk (looks ops o) env) ops o.guard = some true := by rfl) (hd : o.dst = some d := by rfl) (hdn : Nat.blt d nt = true := by rfl) (hk : k + 1 = k' := by (simp only [Nat.reduceAdd]; rfl)) (hb : Nat.ble b0 k = true := by rfl) (h : PL P nt b0 ops W k' rest ((d, .lit (.string (strB l))) :: env) heap Q) : PL P nt b0 ops W k (o :: rest) env heap Q := y_q hg hd hdn hb hk (fun N => q_bstr ho hx hv hT he hU) h
theorem p_slice {α : Type} [Inhabited α] {f : α → List V} {t e s d : Nat} {x : Operand} {lo hi : Option Operand} {v : V} {l r : List α} {a b : Option Int} (m n : Nat) (ha : a.getD 0 = (m : Int)) (hb' : b.getD l.length = (n : Int)) (hmn : m ≤ n) (hn : n ≤ l.length) (hr : (l.take n).drop m = r)
    (ho : o.op = .slice t x lo hi none := by rfl) (hx : opE (lk (looks ops o) env) x = some v := by rfl) (hv : roV [] v = some (l.map f) := by rfl) (hlo : boundE (lk (looks ops o) env) lo = some a := by rfl) (hhi : boundE (lk (looks ops o) env) hi = some b := by rfl)
    (ht : P.underlying t = some (.slice e) := by rfl) (hs : sizeT P e = some s := by rfl) (hsl : ∀ x, (f x).length = s := by intro x; rfl)
    (hg : guardV (lk (looks ops o) env) ops o.guard = some true := by rfl) (hd : o.dst = some d := by rfl) (hdn : Nat.blt d nt = true := by rfl) (hk : k + 1 = k' := by (simp only [Nat.reduceAdd]; rfl)) (hb : Nat.ble b0 k = true := by rfl) (h : PL P nt b0 ops W k' rest ((d, .ro (r.map f)) :: env) heap Q) : PL P nt b0 ops W k (o :: rest) env heap Q := by
  have e : ((l.map f).take n).drop m = r.map f := by rw [← hr, List.map_drop, List.map_take]
  refine y_q hg hd hdn hb hk (fun N => ?_) h
  rw [← e]
  exact q_slice (l := l.map f) ho hx hv hlo hhi ht hs (lenf hsl) ha (by rw [List.length_map]; exact hb') hmn (by rw [List.length_map]; exact hn)
end
end
end Go.Proofs.Ytnbbnedpjfanoaa
