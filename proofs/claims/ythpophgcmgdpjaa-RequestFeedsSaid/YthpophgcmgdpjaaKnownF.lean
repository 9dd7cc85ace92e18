/-
  The fields that all know ahead: fields.Known, and the reference's KnownFields. No condition.
-/
import Derived.Test.YthpophgcmgdpjaaGo
import Derived.Test.YthpophgcmgdpjaaAbsB
import Derived.Test.YthpophgcmgdpjaaTab
set_option linter.unusedVariables false
set_option linter.unusedSimpArgs false
set_option linter.unusedVariables false
namespace Go.Proofs.Ythpophgcmgdpjaa
set_option maxRecDepth 100000
attribute [local irreducible] Run RunL QStep GStep Fn Less PL FnM

def knownT : List UInt8 := [58, 112, 97, 116, 104, 61, 47, 32, 58, 109, 101, 116, 104, 111, 100, 61, 71, 69, 84, 32, 58, 109, 101, 116, 104, 111, 100, 61, 80, 79, 83, 84, 32, 58, 115, 116, 97, 116, 117, 115, 61, 50, 48, 48, 32, 58, 115, 116, 97, 116, 117, 115, 61, 52, 48, 52, 32, 97, 103, 101, 61, 48, 32, 100, 97, 116, 101, 61, 32, 101, 116, 97, 103, 61, 32, 99, 111, 111, 107, 105, 101, 61, 32, 115, 101, 114, 118, 101, 114, 61, 32, 58, 97, 117, 116, 104, 111, 114, 105, 116, 121, 61, 32]
def knownL : List DField := [⟨[58, 112, 97, 116, 104], [47]⟩, ⟨[58, 109, 101, 116, 104, 111, 100], [71, 69, 84]⟩, ⟨[58, 109, 101, 116, 104, 111, 100], [80, 79, 83, 84]⟩, ⟨[58, 115, 116, 97, 116, 117, 115], [50, 48, 48]⟩, ⟨[58, 115, 116, 97, 116, 117, 115], [52, 48, 52]⟩, ⟨[97, 103, 101], [48]⟩, ⟨[100, 97, 116, 101], []⟩, ⟨[101, 116, 97, 103], []⟩, ⟨[99, 111, 111, 107, 105, 101], []⟩, ⟨[115, 101, 114, 118, 101, 114], []⟩, ⟨[58, 97, 117, 116, 104, 111, 114, 105, 116, 121], []⟩]
theorem known_fn : Fn Try.prog 23 [] (.ro (knownL.map encField)) := by
  refine fn_of_run (by kernel_rfl) Try.func23 rfl (by kernel_rfl) ?_
  (repeat' first | (refine go_ ?_; ((repeat' first | exact True.intro | refine Two.mk ?_ ?_); all_goals intros)) | fail "")
  all_goals exact ends_ (hr := rfl)

/-- the fields so far, the one at hand, and whether its value is read -/
structure KSt where
  out : List DField
  f : DField
  b : Bool
def kStep (x : KSt) (c : UInt8) : KSt := if c.toNat = 32 then ⟨x.out ++ [x.f], ⟨[], []⟩, false⟩ else if c.toNat = 61 then ⟨x.out, x.f, true⟩ else if x.b = true then ⟨x.out, ⟨x.f.Name, x.f.Value ++ [c]⟩, true⟩ else ⟨x.out, ⟨x.f.Name ++ [c], x.f.Value⟩, false⟩
def kAt (k : Nat) : KSt := (knownT.take k).foldl kStep ⟨[], ⟨[], []⟩, false⟩
theorem kAt_snoc {k : Nat} (h : k < knownT.length) : kAt (k + 1) = kStep (kAt k) (knownT.getD k default) := by
  unfold kAt
  rw [take_snoc h, List.foldl_append]; rfl
def kLen (x : KSt) : Nat := x.out.length + x.f.Name.length + x.f.Value.length
theorem kStep_len (x : KSt) (c : UInt8) : kLen (kStep x c) ≤ kLen x + 1 := by
  unfold kStep kLen
  split
  · simp; omega
  · split
    · simp
    · split
      · simp; omega
      · simp; omega
theorem kAt_len : ∀ k, k ≤ knownT.length → kLen (kAt k) ≤ k
  | 0, _ => Nat.le_refl _
  | k + 1, h => by
    have h1 := kAt_len k (by omega)
    have h2 := kStep_len (kAt k) (knownT.getD k default)
    rw [kAt_snoc (by omega)]
    omega
theorem known_ascii : ∀ c ∈ knownT, c.toNat < 128 := by decide
theorem known_len : knownT.length = 103 := rfl
theorem kAt_all : (kAt knownT.length).out = knownL := by rfl
set_option maxHeartbeats 2000000 in
theorem knownRef_fn : Fn Try.prog 24 [] (.ro (knownL.map encField)) := by
  refine fn_of_run (by kernel_rfl) Try.func24 rfl (by kernel_rfl) ?_
  (repeat' first | refine s_rangeStr (l := knownT) (h := ?_) | (refine go_ ?_; ((repeat' first | exact True.intro | refine Two.mk ?_ ?_); all_goals intros)) | fail "")
  refine r_for (fun x : Nat × KSt => ⟨[(7, .own 1), (1, .own 2), (2, .ptr 0 0 0 0), (3, .lit (.bool x.2.b))], [(0, some (.box 113 [.lit (.string (strB x.2.f.Name)), .lit (.string (strB x.2.f.Value))])), (1, some (.obj (.stringIter (strB knownT) x.1))), (2, some (.row 113 2 (x.2.out.map encField)))], 3, Try.f24.ntmps⟩)
    (fun x => x.1 ≤ knownT.length ∧ x.2 = kAt x.1) (fun x => knownT.length - x.1) (0, ⟨[], ⟨[], []⟩, false⟩) ⟨Nat.zero_le _, rfl⟩ ((less_own (n := 2) (t := 1) 113 2 rfl rfl rfl).trans less_to) ?_
  rintro ⟨k, x⟩ ⟨hk, hx⟩
  dsimp only at hk hx ⊢
  have hlen := kAt_len k hk
  rw [known_len] at hk
  by_cases hkn : k < knownT.length
  · have hs := kAt_snoc hkn
    have ha := known_ascii _ (getD_mem hkn)
    unfold kStep at hs
    unfold kLen at hlen
    rw [← hx] at hs hlen
    clear hx
    obtain ⟨out, ⟨nm, vl⟩, b⟩ := x
    dsimp only at hs hlen ⊢
    by_cases c1 : (knownT.getD k default).toNat = 32
    · rw [if_pos c1] at hs
      (repeat' first | refine s_nextStr (l := knownT) hkn ha (h := ?_) | (refine s_app (r := (out ++ [DField.mk nm vl]).map encField) ?_ ?_ ?_ ?_ (h := ?_); (focus (first | with_reducible rfl | with_reducible exact List.nil_append _ | with_reducible exact (List.map_append ..).symm | (rw [take_snoc (by assumption), List.map_append]; rfl) | (rw [List.map_append]; rfl) | (simp; done))); (focus (first | exact len_none | exact len_one rfl | exact len_two rfl rfl | exact len_enc (fun _ => rfl))); (focus ((conv => lhs; rhs; whnf); simp only [List.length_map, List.length_append, List.length_cons, List.length_nil, List.length_take]; omega)); (focus (simp only [List.length_map, List.length_append, List.length_cons, List.length_nil, List.length_take]; omega))) | (refine s_app0R (r := (out ++ [DField.mk nm vl]).map encField) ?_ ?_ ?_ ?_ (h := ?_); (focus (first | with_reducible rfl | with_reducible exact List.nil_append _ | with_reducible exact (List.map_append ..).symm | (rw [take_snoc (by assumption), List.map_append]; rfl) | (rw [List.map_append]; rfl) | (simp; done))); (focus (first | exact len_none | exact len_one rfl | exact len_two rfl rfl | exact len_enc (fun _ => rfl))); (focus ((conv => lhs; rhs; whnf); simp only [List.length_map, List.length_append, List.length_cons, List.length_nil, List.length_take]; omega)); (focus (simp only [List.length_map, List.length_append, List.length_cons, List.length_nil, List.length_take]; omega))) | (refine p_app (r := (out ++ [DField.mk nm vl]).map encField) ?_ ?_ ?_ ?_ (h := ?_); (focus (first | with_reducible rfl | with_reducible exact List.nil_append _ | with_reducible exact (List.map_append ..).symm | (rw [take_snoc (by assumption), List.map_append]; rfl) | (rw [List.map_append]; rfl) | (simp; done))); (focus (first | exact len_none | exact len_one rfl | exact len_two rfl rfl | exact len_enc (fun _ => rfl))); (focus ((conv => lhs; rhs; whnf); simp only [List.length_map, List.length_append, List.length_cons, List.length_nil, List.length_take]; omega)); (focus (simp only [List.length_map, List.length_append, List.length_cons, List.length_nil, List.length_take]; omega))) | (refine p_app0R (r := (out ++ [DField.mk nm vl]).map encField) ?_ ?_ ?_ ?_ (h := ?_); (focus (first | with_reducible rfl | with_reducible exact List.nil_append _ | with_reducible exact (List.map_append ..).symm | (rw [take_snoc (by assumption), List.map_append]; rfl) | (rw [List.map_append]; rfl) | (simp; done))); (focus (first | exact len_none | exact len_one rfl | exact len_two rfl rfl | exact len_enc (fun _ => rfl))); (focus ((conv => lhs; rhs; whnf); simp only [List.length_map, List.length_append, List.length_cons, List.length_nil, List.length_take]; omega)); (focus (simp only [List.length_map, List.length_append, List.length_cons, List.length_nil, List.length_take]; omega))) | (refine go_ ?_; ((repeat' first | exact True.intro | refine Two.mk ?_ ?_); all_goals intros)) | fail "")
      all_goals first
        | (refine ⟨(k + 1, KSt.mk (out ++ [DField.mk nm vl]) ⟨[], []⟩ false), ?_, ?_, ?_⟩; rotate_left 2; (exact lessA_); (focus (dsimp only; omega)); (focus (exact ⟨hkn, hs.symm⟩)))
        | skip
    · rw [if_neg c1] at hs
      by_cases c2 : (knownT.getD k default).toNat = 61
      · rw [if_pos c2] at hs
        (repeat' first | refine s_nextStr (l := knownT) hkn ha (h := ?_) | (refine go_ ?_; ((repeat' first | exact True.intro | refine Two.mk ?_ ?_); all_goals intros)) | fail "")
        all_goals first
          | (refine ⟨(k + 1, KSt.mk out ⟨nm, vl⟩ true), ?_, ?_, ?_⟩; rotate_left 2; (exact lessA_); (focus (dsimp only; omega)); (focus (exact ⟨hkn, hs.symm⟩)))
          | skip
      · rw [if_neg c2] at hs
        cases b
        · rw [if_neg (by decide)] at hs
          (repeat' first | refine s_nextStr (l := knownT) hkn ha (h := ?_) | refine s_runeStr (c := knownT.getD k default) ha (h := ?_) | (refine go_ ?_; ((repeat' first | exact True.intro | refine Two.mk ?_ ?_); all_goals intros)) | fail "")
          all_goals first
            | (refine ⟨(k + 1, KSt.mk out ⟨nm ++ [knownT.getD k default], vl⟩ false), ?_, ?_, ?_⟩; rotate_left 2; (exact lessA_); (focus (dsimp only; omega)); (focus (exact ⟨hkn, hs.symm⟩)))
            | skip
        · rw [if_pos rfl] at hs
          (repeat' first | refine s_nextStr (l := knownT) hkn ha (h := ?_) | refine s_runeStr (c := knownT.getD k default) ha (h := ?_) | (refine go_ ?_; ((repeat' first | exact True.intro | refine Two.mk ?_ ?_); all_goals intros)) | fail "")
          all_goals first
            | (refine ⟨(k + 1, KSt.mk out ⟨nm, vl ++ [knownT.getD k default]⟩ true), ?_, ?_, ?_⟩; rotate_left 2; (exact lessA_); (focus (dsimp only; omega)); (focus (exact ⟨hkn, hs.symm⟩)))
            | skip
  · have hkl : k = knownT.length := by rw [known_len] at hkn ⊢; omega
    subst hkl
    rw [hx, kAt_all]
    (repeat' first | refine s_nextEnd (l := knownT) hkn (h := ?_) | (refine go_ ?_; ((repeat' first | exact True.intro | refine Two.mk ?_ ?_); all_goals intros)) | fail "")
    all_goals first
      | exact ends_ (hr := rfl)
      | skip
end Go.Proofs.Ythpophgcmgdpjaa
