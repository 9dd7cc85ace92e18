/-
  Sets of numbers: a range put to a set, and ranges joined: the plain part.
-/
import Derived.Test.YtfdomanbdfekhaaGreatGE
set_option linter.unusedVariables false
set_option linter.unusedSimpArgs false
set_option linter.unusedVariables false
namespace Go.Proofs.YtfdomanbdfekhaaGreat

/-- a number lies in one of the ranges -/
def inL (l : List DRange) (n : Int) : Prop := ∃ x ∈ l, x.Lo ≤ n ∧ n ≤ x.Hi
theorem inL_nil {n : Int} : ¬ inL [] n := fun ⟨_, h, _⟩ => by cases h
theorem inL_cons {x : DRange} {l : List DRange} {n : Int} : inL (x :: l) n ↔ (x.Lo ≤ n ∧ n ≤ x.Hi) ∨ inL l n := by
  constructor
  · rintro ⟨y, hy, h⟩
    rcases List.mem_cons.1 hy with rfl | hy
    · exact .inl h
    · exact .inr ⟨y, hy, h⟩
  · rintro (h | ⟨y, hy, h⟩)
    · exact ⟨x, List.mem_cons_self .., h⟩
    · exact ⟨y, List.mem_cons_of_mem _ hy, h⟩
theorem inL_app {l m : List DRange} {n : Int} : inL (l ++ m) n ↔ inL l n ∨ inL m n := by
  induction l with
  | nil => simp [inL_nil]
  | cons x l ih => rw [List.cons_append, inL_cons, inL_cons, ih, or_assoc]
theorem inL_one {x : DRange} {n : Int} : inL [x] n ↔ x.Lo ≤ n ∧ n ≤ x.Hi := by rw [inL_cons]; simp [inL_nil]
theorem inL_perm {l m : List DRange} (h : ∀ x, x ∈ l ↔ x ∈ m) {n : Int} : inL l n ↔ inL m n :=
  ⟨fun ⟨x, hx, q⟩ => ⟨x, (h x).1 hx, q⟩, fun ⟨x, hx, q⟩ => ⟨x, (h x).2 hx, q⟩⟩
theorem rSet_in {l : List DRange} {a : Int} (h : rSet a l) {n : Int} (hn : inL l n) : a + 2 ≤ n := by
  obtain ⟨x, hx, h1, h2⟩ := hn
  have := (rSet_good h x hx).2
  omega
theorem inL_lo {l : List DRange} {a : Int} (h : rSet a l) {x : DRange} (hx : x ∈ l) : inL l x.Lo ∧ inL l x.Hi := by
  have hg := (rSet_good h x hx).1
  unfold rGood at hg
  exact ⟨⟨x, hx, Int.le_refl _, hg.2.1⟩, ⟨x, hx, hg.2.1, Int.le_refl _⟩⟩
/-- one set of numbers is written in one way -/
theorem rSet_uniq : ∀ {l m : List DRange} {a b : Int}, rSet a l → rSet b m → (∀ n, inL l n ↔ inL m n) → l = m
  | [], [], _, _, _, _, _ => rfl
  | [], y :: m, _, _, _, h, e => absurd ((e y.Lo).2 (inL_lo h (List.mem_cons_self ..)).1) inL_nil
  | x :: l, [], _, _, h, _, e => absurd ((e x.Lo).1 (inL_lo h (List.mem_cons_self ..)).1) inL_nil
  | x :: l, y :: m, a, b, hl, hm, e => by
    have gx := hl.1
    have gy := hm.1
    unfold rGood at gx gy
    have bl : ∀ n, inL l n → x.Hi + 2 ≤ n := fun n h => rSet_in hl.2.2 h
    have bm : ∀ n, inL m n → y.Hi + 2 ≤ n := fun n h => rSet_in hm.2.2 h
    have key : ∀ n, ((x.Lo ≤ n ∧ n ≤ x.Hi) ∨ inL l n) ↔ ((y.Lo ≤ n ∧ n ≤ y.Hi) ∨ inL m n) := fun n => by rw [← inL_cons, ← inL_cons]; exact e n
    have hlo : x.Lo = y.Lo := by
      have h1 := (key x.Lo).1 (.inl (by omega))
      have h2 := (key y.Lo).2 (.inl (by omega))
      rcases h1 with h1 | h1
      · rcases h2 with h2 | h2
        · omega
        · have := bl _ h2; omega
      · rcases h2 with h2 | h2
        · have := bm _ h1; omega
        · have := bl _ h2; have := bm _ h1; omega
    have hhi : x.Hi = y.Hi := by
      rcases Int.lt_trichotomy x.Hi y.Hi with h | h | h
      · exfalso
        rcases (key (x.Hi + 1)).2 (.inl (by omega)) with h1 | h1
        · omega
        · have := bl _ h1; omega
      · exact h
      · exfalso
        rcases (key (y.Hi + 1)).1 (.inl (by omega)) with h1 | h1
        · omega
        · have := bm _ h1; omega
    have hxy : x = y := ext_Range hlo hhi
    subst hxy
    congr 1
    refine rSet_uniq hl.2.2 hm.2.2 (fun n => ⟨fun h => ?_, fun h => ?_⟩)
    · rcases (key n).1 (.inr h) with h1 | h1
      · have := bl _ h; omega
      · exact h1
    · rcases (key n).2 (.inr h) with h1 | h1
      · have := bm _ h; omega
      · exact h1

/-- a range put to a set -/
def rAdd : List DRange → DRange → List DRange
  | [], r => [r]
  | x :: l, r => if x.Hi + 1 < r.Lo then x :: rAdd l r else if r.Hi + 1 < x.Lo then r :: x :: l else rAdd l ⟨min r.Lo x.Lo, max r.Hi x.Hi⟩
theorem rAdd_in : ∀ {l : List DRange} {r : DRange} {n : Int}, r.Lo ≤ r.Hi → (∀ x ∈ l, x.Lo ≤ x.Hi) → (inL (rAdd l r) n ↔ inL l n ∨ (r.Lo ≤ n ∧ n ≤ r.Hi))
  | [], r, n, _, _ => by unfold rAdd; rw [inL_one]; simp [inL_nil]
  | x :: l, r, n, hr, hx => by
    have h1 := hx x (List.mem_cons_self ..)
    have hl := fun y hy => hx y (List.mem_cons_of_mem x hy)
    unfold rAdd
    split
    · rw [inL_cons, inL_cons, rAdd_in hr hl, or_assoc]
    · split
      · rw [inL_cons, or_comm]
      · rw [rAdd_in (r := ⟨min r.Lo x.Lo, max r.Hi x.Hi⟩) (show min r.Lo x.Lo ≤ max r.Hi x.Hi by omega) hl, inL_cons]
        dsimp only
        constructor
        · rintro (h | h)
          · exact .inl (.inr h)
          · by_cases h2 : r.Lo ≤ n ∧ n ≤ r.Hi
            · exact .inr h2
            · exact .inl (.inl (by omega))
        · rintro ((h | h) | h)
          · exact .inr (by omega)
          · exact .inl h
          · exact .inr (by omega)
theorem rAdd_set : ∀ {l : List DRange} {r : DRange} {a : Int}, rSet a l → rGood r → a + 2 ≤ r.Lo → rSet a (rAdd l r)
  | [], r, a, _, hr, ha => ⟨hr, ha, trivial⟩
  | x :: l, r, a, h, hr, ha => by
    have hx := h.1
    have h2 := h.2.1
    unfold rAdd
    split
    · exact ⟨hx, h2, rAdd_set h.2.2 hr (by omega)⟩
    · split
      · exact ⟨hr, ha, hx, by omega, h.2.2⟩
      · unfold rGood at hx hr
        exact rAdd_set (rSet_weak h.2.2 (by omega)) (by unfold rGood; dsimp only; omega) (by dsimp only; omega)
theorem rAdd_len : ∀ (l : List DRange) (r : DRange), (rAdd l r).length ≤ l.length + 1
  | [], r => by simp [rAdd]
  | x :: l, r => by
    unfold rAdd
    split
    · have := rAdd_len l r; simp; omega
    · split
      · simp
      · have := rAdd_len l ⟨min r.Lo x.Lo, max r.Hi x.Hi⟩; simp; omega

/-- ranges, the lowest one first, joined: c: the one that is being put together -/
def jn (c : DRange) : List DRange → List DRange
  | [] => [c]
  | r :: m => if r.Lo ≤ c.Hi + 1 then jn ⟨c.Lo, max c.Hi r.Hi⟩ m else c :: jn r m
def jnd : List DRange → List DRange
  | [] => []
  | x :: m => jn x m
/-- sorted behind a number -/
def sortL : Int → List DRange → Prop
  | _, [] => True
  | a, x :: l => a ≤ x.Lo ∧ sortL x.Lo l
theorem sortL_weak : ∀ {l : List DRange} {a b : Int}, sortL a l → b ≤ a → sortL b l
  | [], _, _, _, _ => trivial
  | x :: l, a, b, h, hb => ⟨by have := h.1; omega, h.2⟩
theorem jn_in : ∀ {m : List DRange} {c : DRange} {n : Int}, c.Lo ≤ c.Hi → (∀ x ∈ m, x.Lo ≤ x.Hi) → sortL c.Lo m → (inL (jn c m) n ↔ (c.Lo ≤ n ∧ n ≤ c.Hi) ∨ inL m n)
  | [], c, n, _, _, _ => by unfold jn; rw [inL_one]; simp [inL_nil]
  | r :: m, c, n, hc, hm, hs => by
    have h1 := hm r (List.mem_cons_self ..)
    have hl := fun y hy => hm y (List.mem_cons_of_mem r hy)
    have h2 := hs.1
    unfold jn
    split
    · rw [jn_in (c := ⟨c.Lo, max c.Hi r.Hi⟩) (show c.Lo ≤ max c.Hi r.Hi by omega) hl (sortL_weak hs.2 h2), inL_cons]
      dsimp only
      constructor
      · rintro (h | h)
        · by_cases h3 : c.Lo ≤ n ∧ n ≤ c.Hi
          · exact .inl h3
          · exact .inr (.inl (by omega))
        · exact .inr (.inr h)
      · rintro (h | h | h)
        · exact .inl (by omega)
        · exact .inl (by omega)
        · exact .inr h
    · rw [inL_cons, jn_in h1 hl hs.2, inL_cons]
theorem jn_set : ∀ {m : List DRange} {c : DRange} {a : Int}, rGood c → (∀ x ∈ m, rGood x) → sortL c.Lo m → a + 2 ≤ c.Lo → rSet a (jn c m)
  | [], c, a, hc, _, _, ha => ⟨hc, ha, trivial⟩
  | r :: m, c, a, hc, hm, hs, ha => by
    have h1 := hm r (List.mem_cons_self ..)
    have hl := fun y hy => hm y (List.mem_cons_of_mem r hy)
    have h2 := hs.1
    unfold jn
    split
    · unfold rGood at hc h1
      exact jn_set (by unfold rGood; dsimp only; omega) hl (sortL_weak hs.2 h2) ha
    · exact ⟨hc, ha, jn_set h1 hl hs.2 (by omega)⟩
theorem jnd_in {m : List DRange} (hm : ∀ x ∈ m, rGood x) (hs : sortL 0 m) {n : Int} : inL (jnd m) n ↔ inL m n := by
  cases m with
  | nil => exact Iff.rfl
  | cons x m =>
    unfold jnd
    rw [jn_in (hm x (List.mem_cons_self ..)).2.1 (fun y hy => (hm y (List.mem_cons_of_mem _ hy)).2.1) hs.2, inL_cons]
theorem jnd_set {m : List DRange} (hm : ∀ x ∈ m, rGood x) (hs : sortL 0 m) : rSet (-2) (jnd m) := by
  cases m with
  | nil => trivial
  | cons x m =>
    have h1 := hm x (List.mem_cons_self ..)
    exact jn_set h1 (fun y hy => hm y (List.mem_cons_of_mem _ hy)) hs.2 (by unfold rGood at h1; omega)
/-- joined, in whatever order they were: the one set that has their numbers -/
theorem jnd_eq {l m R : List DRange} (hm : ∀ x, x ∈ m ↔ x ∈ l) (hl : ∀ x ∈ l, rGood x) (hs : sortL 0 m) (hR : rSet (-2) R) (hin : ∀ n, inL R n ↔ inL l n) : jnd m = R := by
  have hm2 : ∀ x ∈ m, rGood x := fun x hx => hl x ((hm x).1 hx)
  exact rSet_uniq (jnd_set hm2 hs) hR (fun n => by rw [jnd_in hm2 hs, hin, inL_perm hm])
/-- P3.2 -/
def rAddR (l : List DRange) (r : DRange) : List DRange × Int := if rgFlt l r ≠ 0 then ([], rgFlt l r) else (rAdd l r, 0)
end Go.Proofs.YtfdomanbdfekhaaGreat
