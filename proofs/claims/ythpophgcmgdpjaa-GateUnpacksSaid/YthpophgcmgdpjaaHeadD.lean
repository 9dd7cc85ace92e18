/-
  head.Decode and the reference's HeadOf: one answer. No condition.
-/
import Derived.Test.YthpophgcmgdpjaaGo
import Derived.Test.YthpophgcmgdpjaaVarD
set_option linter.unusedVariables false
set_option linter.unusedSimpArgs false
set_option linter.unusedVariables false
namespace Go.Proofs.Ythpophgcmgdpjaa
set_option maxRecDepth 100000
attribute [local irreducible] Run RunL QStep GStep Fn Less PL FnM

def hdErr (e : Int) : DHead × Int × Int := (⟨0, 0, 0, [], 0, 0⟩, 0, e)
def encHd (r : DHead × Int × Int) : V := .tup [.agg (encHead r.1), .lit (.int .i64 r.2.1), .lit (.int .i64 r.2.2)]
/-- the kind, and how many bytes the number has -/
def hdK (c : Nat) : Option (Int × Nat) := if 64 ≤ c ∧ c < 68 then some (2, c - 63) else if 192 ≤ c ∧ c < 196 then some (0, c - 191) else if c = 240 then some (1, 0) else none
def hdFin (K : Int) (T F : Nat) (tok : List UInt8) (S u : Nat) (l : List UInt8) : DHead × Int × Int :=
  if l.length < u + S then hdErr 4 else (⟨K, T, F, tok, ((numG 0 ((l.take (u + S)).drop u) : Nat) : Int), S⟩, ((u + S : Nat) : Int), 0)
def hdLong (K : Int) (S : Nat) (l : List UInt8) (v : Nat × Nat × Int) : DHead × Int × Int :=
  if ¬ v.2.2 = 0 then hdErr v.2.2 else if 120 < v.1 then hdErr 1 else if l.length < 3 + v.2.1 + v.1 then hdErr 4
  else hdFin K (l.getD 1 default).toNat (l.getD 2 default).toNat ((l.take (3 + v.2.1 + v.1)).drop (3 + v.2.1)) S (3 + v.2.1 + v.1) l
def hdR (K : Int) (S : Nat) (l : List UInt8) : DHead × Int × Int :=
  if K = 2 then (if l.length < 2 then hdErr 4 else hdFin 2 (l.getD 1 default).toNat 0 [] S 2 l)
  else if l.length < 3 then hdErr 4 else hdLong K S l (varD (l.drop 3))
/-- P5.3 -/
def hdD (l : List UInt8) : DHead × Int × Int :=
  if l.length = 0 then hdErr 4 else match hdK (l.getD 0 default).toNat with
    | none => hdErr 2
    | some (K, S) => hdR K S l
theorem hdK_cases (c : Nat) : (hdK c = some (2, c - 63) ∧ 64 ≤ c ∧ c < 68) ∨ (hdK c = some (0, c - 191) ∧ 192 ≤ c ∧ c < 196) ∨ (hdK c = some (1, 0) ∧ c = 240) ∨ (hdK c = none ∧ ¬ (64 ≤ c ∧ c < 68) ∧ ¬ (192 ≤ c ∧ c < 196) ∧ ¬ c = 240) := by
  unfold hdK
  split
  · exact .inl ⟨rfl, by assumption⟩
  · split
    · exact .inr (.inl ⟨rfl, by assumption⟩)
    · split
      · exact .inr (.inr (.inl ⟨rfl, by assumption⟩))
      · exact .inr (.inr (.inr ⟨rfl, by assumption, by assumption, by assumption⟩))
theorem hdD_none {l : List UInt8} (h0 : ¬ l.length = 0) (h : hdK (l.getD 0 default).toNat = none) : hdD l = hdErr 2 := by unfold hdD; rw [if_neg h0, h]
theorem hdD_some {l : List UInt8} {K : Int} {S : Nat} (h0 : ¬ l.length = 0) (h : hdK (l.getD 0 default).toNat = some (K, S)) : hdD l = hdR K S l := by unfold hdD; rw [if_neg h0, h]
theorem andNotU8 (c : Nat) (h : c < 256) : bitsI .andNot .u8 (c : Int) 3 = ((c - c % 4 : Nat) : Int) := andNot3 ⟨c, h⟩
end Go.Proofs.Ythpophgcmgdpjaa
