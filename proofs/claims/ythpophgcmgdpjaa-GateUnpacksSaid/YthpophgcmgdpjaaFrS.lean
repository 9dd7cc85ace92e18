/-
  What a frame's bytes say, step by step: plain lemmas. No condition.
-/
import Derived.Test.YthpophgcmgdpjaaEyeR
import Derived.Test.YthpophgcmgdpjaaFrC
set_option linter.unusedVariables false
set_option linter.unusedSimpArgs false
set_option linter.unusedVariables false
namespace Go.Proofs.Ythpophgcmgdpjaa
set_option maxRecDepth 100000
attribute [local irreducible] Run RunL QStep GStep Fn Less PL FnM

/-- a frame so far, what is left, and what is wrong -/
abbrev FS := DFrame × List UInt8 × Int
def sRg (z : FS) : FS := ({ z.1 with Ranges := (rgR z.2.1 z.2.2).1 }, (rgR z.2.1 z.2.2).2.1, (rgR z.2.1 z.2.2).2.2)
def sId (z : FS) : FS := ({ z.1 with Id := ((numR z.2.1 z.2.2).1 : Int) }, (numR z.2.1 z.2.2).2.1, (numR z.2.1 z.2.2).2.2)
def sOf (z : FS) : FS := ({ z.1 with Off := ((numR z.2.1 z.2.2).1 : Int) }, (numR z.2.1 z.2.2).2.1, (numR z.2.1 z.2.2).2.2)
def sCo (z : FS) : FS := ({ z.1 with Code := ((numR z.2.1 z.2.2).1 : Int) }, (numR z.2.1 z.2.2).2.1, (numR z.2.1 z.2.2).2.2)
def sWo (z : FS) : FS := ({ z.1 with Code := IntKind.i64.wrap ((numG 0 (takeR 8 z.2.1 z.2.2).1 : Nat) : Int) }, (takeR 8 z.2.1 z.2.2).2.1, (takeR 8 z.2.1 z.2.2).2.2)
def daE (z : FS) : Int := if 120 < (numR z.2.1 z.2.2).1 then failR (numR z.2.1 z.2.2).2.2 1 else (numR z.2.1 z.2.2).2.2
def sDa (z : FS) : FS := ({ z.1 with Data := (takeR (numR z.2.1 z.2.2).1 (numR z.2.1 z.2.2).2.1 (daE z)).1 }, (takeR (numR z.2.1 z.2.2).1 (numR z.2.1 z.2.2).2.1 (daE z)).2.1, (takeR (numR z.2.1 z.2.2).1 (numR z.2.1 z.2.2).2.1 (daE z)).2.2)
def optS (b : Bool) (f : FS → FS) (z : FS) : FS := if b = true then f z else z
def wcS (w c : Bool) (z : FS) : FS := if w = true then sWo z else optS c sCo z
def seqS (s : List UInt8) (z : FS) : FS := optS (hasI s 100) sDa (wcS (hasI s 119) (hasI s 99 || hasI s 119) (optS (hasI s 111) sOf (optS (hasI s 105) sId z)))
def frErr (e : Int) : DFrame × Int × Int := (⟨0, 0, 0, false, 0, [], []⟩, 0, e)
def frFin (A : Nat) (z : FS) : DFrame × Int × Int := if ¬ z.2.2 = 0 then frErr z.2.2 else if ¬ frFlt z.1 = 0 then frErr (frFlt z.1) else (z.1, (A : Int) - (z.2.1.length : Int), 0)
def frBody (A : Nat) (K : Int) (fin : Bool) (s : List UInt8) : DFrame × Int × Int :=
  if kOk K = false then frErr 2 else frFin A (seqS (hasB K) (if K = 2 then sRg (⟨K, 0, 0, fin, 0, [], []⟩, s, 0) else (⟨K, 0, 0, fin, 0, [], []⟩, s, 0)))
def frHead (A n : Nat) (s : List UInt8) (e : Int) : DFrame × Int × Int :=
  if ¬ e = 0 then frErr e else if n = 8 then frErr 2 else frBody A (if n = 14 ∨ n = 15 then 8 else n) (decide (n = 15)) s
/-- P4.4 -/
def frD (l : List UInt8) : DFrame × Int × Int := frHead l.length (numR l 0).1 (numR l 0).2.1 (numR l 0).2.2
def encFr (r : DFrame × Int × Int) : V := .tup [.agg (encFrame r.1), .lit (.int .i64 r.2.1), .lit (.int .i64 r.2.2)]
/-- a state ahead of the data -/
structure Good (A : Nat) (z : FS) : Prop where
  k : I64 z.1.Kind
  i : I64 z.1.Id
  o : I64 z.1.Off
  c : I64 z.1.Code
  r : z.1.Ranges = []
  d : z.1.Data = []
  l : z.2.1.length ≤ A
theorem I64_num {n : Nat} (h : n ≤ 4611686018427387903) : I64 (n : Int) := by unfold I64; omega
theorem good_id {A : Nat} {z : FS} (h : Good A z) : Good A (sId z) := by
  have f := numR_facts z.2.1 z.2.2
  exact ⟨h.k, I64_num f.2.1, h.o, h.c, h.r, h.d, Nat.le_trans f.1 h.l⟩
theorem good_of {A : Nat} {z : FS} (h : Good A z) : Good A (sOf z) := by
  have f := numR_facts z.2.1 z.2.2
  exact ⟨h.k, h.i, I64_num f.2.1, h.c, h.r, h.d, Nat.le_trans f.1 h.l⟩
theorem good_co {A : Nat} {z : FS} (h : Good A z) : Good A (sCo z) := by
  have f := numR_facts z.2.1 z.2.2
  exact ⟨h.k, h.i, h.o, I64_num f.2.1, h.r, h.d, Nat.le_trans f.1 h.l⟩
theorem good_wo {A : Nat} {z : FS} (h : Good A z) : Good A (sWo z) := by
  have f := takeR_facts 8 z.2.1 z.2.2
  refine ⟨h.k, h.i, h.o, ?_, h.r, h.d, Nat.le_trans f.1 h.l⟩
  show I64 (IntKind.i64.wrap _)
  unfold I64
  rw [IntKind.wrap_i64]
  omega
theorem good_opt {A : Nat} {z : FS} {f : FS → FS} {b : Bool} (h : Good A z) (hf : Good A (f z)) : Good A (optS b f z) := by
  unfold optS; split
  · exact hf
  · exact h
theorem good_wc {A : Nat} {z : FS} {w c : Bool} (h : Good A z) : Good A (wcS w c z) := by
  unfold wcS; split
  · exact good_wo h
  · exact good_opt h (good_co h)
theorem daE_facts (z : FS) : (¬ daE z = 0 → True) ∧ (120 < (numR z.2.1 z.2.2).1 → daE z = 1) ∧ (¬ 120 < (numR z.2.1 z.2.2).1 → daE z = (numR z.2.1 z.2.2).2.2) := by
  refine ⟨fun _ => trivial, fun h => ?_, fun h => if_neg h⟩
  have f := (numR_facts z.2.1 z.2.2).2.2.2
  have he : (numR z.2.1 z.2.2).2.2 = 0 := Classical.byContradiction fun c => by have := f c; omega
  unfold daE failR
  rw [if_pos h, if_pos he]
theorem data_len (z : FS) : (sDa z).1.Data.length ≤ 120 ∧ (sDa z).2.1.length ≤ z.2.1.length := by
  obtain ⟨_, d2, d3⟩ := daE_facts z
  have f := numR_facts z.2.1 z.2.2
  have t := takeR_facts (numR z.2.1 z.2.2).1 (numR z.2.1 z.2.2).2.1 (daE z)
  refine ⟨?_, Nat.le_trans t.1 f.1⟩
  by_cases h : 120 < (numR z.2.1 z.2.2).1
  · have := t.2.2 (by rw [d2 h]; decide)
    show (takeR (numR z.2.1 z.2.2).1 (numR z.2.1 z.2.2).2.1 (daE z)).1.length ≤ 120
    rw [this]; simp
  · show (takeR (numR z.2.1 z.2.2).1 (numR z.2.1 z.2.2).2.1 (daE z)).1.length ≤ 120
    omega
theorem rgRun_len {A m : Nat} : ∀ {i : Nat} {hi : Int} {out : List DRange} {s : List UInt8} {e : Int}, s.length ≤ A → (rgRun m i hi out s e).2.1.length ≤ A ∧ (rgRun m i hi out s e).1.length ≤ out.length + m := by
  induction m with
  | zero => intro i hi out s e h; exact ⟨h, Nat.le_refl _⟩
  | succ m ih =>
    intro i hi out s e h
    unfold rgRun
    split
    · exact ⟨h, by simp⟩
    · have f := numR_facts s e
      have g := numR_facts (numR s e).2.1 (numR s e).2.2
      have h1 : (rgIt i hi out s e).2.2.1.length ≤ A := by unfold rgIt; split <;> (dsimp only; omega)
      have h2 : (rgIt i hi out s e).2.1.length = out.length + 1 := by unfold rgIt; split <;> simp
      have := ih (i := i + 1) (hi := (rgIt i hi out s e).1) (out := (rgIt i hi out s e).2.1) (e := (rgIt i hi out s e).2.2.2) h1
      exact ⟨this.1, by omega⟩
theorem rgR_len {A : Nat} {s : List UInt8} (h : s.length ≤ A) : (rgR s 0).2.1.length ≤ A ∧ (rgR s 0).1.length ≤ 6 := by
  have f := numR_facts s 0
  have g := numR_facts (numR s 0).2.1 (numR s 0).2.2
  unfold rgR rgGo
  split
  · exact ⟨by dsimp only; omega, by simp⟩
  · rename_i hc
    have := rgRun_len (A := A) (m := (numR (numR s 0).2.1 (numR s 0).2.2).1 + 1) (i := 0) (hi := (numR s 0).1) (out := []) (s := (numR (numR s 0).2.1 (numR s 0).2.2).2.1) (e := (numR (numR s 0).2.1 (numR s 0).2.2).2.2) (by omega)
    refine ⟨this.1, ?_⟩
    have h2 := g.2.2.2
    have h3 := this.2
    simp only [List.length_nil] at h3
    by_cases he : (numR (numR s 0).2.1 (numR s 0).2.2).2.2 = 0
    · omega
    · have := h2 he; omega
/-- every range told is of whole numbers that fit -/
def rgFits (l : List DRange) : Prop := ∀ y, y ∈ l → wfRange y
theorem numG_snocW (N c : Nat) (hc : c < 256) : bitsI .or .i64 (IntKind.i64.wrap (IntKind.i64.wrap (N : Int) * 2 ^ min (8 : Int).toNat IntKind.i64.bits)) (c : Int) = IntKind.i64.wrap ((N * 256 + c : Nat) : Int) := by
  rw [show (2 : Int) ^ min (8 : Int).toNat IntKind.i64.bits = 256 from rfl]
  have h1 : (BitVec.ofInt 64 (IntKind.i64.wrap (IntKind.i64.wrap (N : Int) * 256))).toNat = 2 ^ 8 * (N % 72057594037927936) := by
    rw [BitVec.toNat_ofInt, IntKind.wrap_i64, IntKind.wrap_i64]
    omega
  have h2 : (BitVec.ofInt 64 (c : Int)).toNat = c := by
    rw [BitVec.toNat_ofInt]; omega
  show IntKind.i64.wrap (((BitVec.ofInt 64 (IntKind.i64.wrap (IntKind.i64.wrap (N : Int) * 256)) ||| BitVec.ofInt 64 (c : Int) : BitVec 64).toNat : Nat) : Int) = _
  rw [BitVec.toNat_or, h1, h2, ← Nat.two_pow_add_eq_or_of_lt (show c < 2 ^ 8 by omega), IntKind.wrap_i64, IntKind.wrap_i64]
  omega
end Go.Proofs.Ythpophgcmgdpjaa
