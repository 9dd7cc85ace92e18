/-
  gather.Put: the pieces that it comes to are those that the reference makes out of single bytes. Plain.
-/
import Derived.Test.YtendheafcbickaaGA
import Derived.Test.YtendheafcbickaaPutP
set_option linter.unusedVariables false
set_option linter.unusedSimpArgs false
set_option linter.unusedVariables false
namespace Go.Proofs.Ytendheafcbickaa
set_option maxRecDepth 100000

/-- the bytes of a piece, each with its place -/
def fl : Int → List UInt8 → List (Int × UInt8)
  | _, [] => []
  | o, c :: d => (o, c) :: fl (o + 1) d
def flP (l : List DPiece) : List (Int × UInt8) := l.flatMap (fun p => fl p.Off p.Data)
def one (y : Int × UInt8) : DPiece := ⟨y.1, [y.2]⟩
theorem mgAll_app : ∀ (l m : List DPiece) (x : Option (List DPiece × DPiece)), mgAll x (l ++ m) = mgAll (mgAll x l) m
  | [], _, _ => rfl
  | p :: l, m, x => mgAll_app l m (mgAdd x p)
theorem mgAll_fl : ∀ (d : List UInt8) (L : List DPiece) (o : Int) (D : List UInt8), mgAll (some (L, ⟨o, D⟩)) ((fl (o + D.length) d).map one) = some (L, ⟨o, D ++ d⟩)
  | [], L, o, D => by simp [fl, mgAll]
  | c :: d, L, o, D => by
    have h := mgAll_fl d L o (D ++ [c])
    simp only [fl, List.map_cons, mgAll, one]
    unfold mgAdd
    dsimp only
    rw [if_pos rfl]
    rw [List.length_append] at h
    rw [show o + (D.length : Int) + 1 = o + ((D.length + [c].length : Nat) : Int) by simp; omega, h]
    simp
theorem mgAdd_fl (x : Option (List DPiece × DPiece)) (p : DPiece) (hp : p.Data ≠ []) : mgAll x ((fl p.Off p.Data).map one) = mgAdd x p := by
  obtain ⟨o, D⟩ := p
  cases D with
  | nil => exact absurd rfl hp
  | cons c d =>
    simp only [fl, List.map_cons, mgAll, one]
    cases x with
    | none =>
      have := mgAll_fl d [] o [c]
      simpa [mgAdd] using this
    | some y =>
      obtain ⟨L, q⟩ := y
      unfold mgAdd
      dsimp only
      split
      · rename_i h
        have := mgAll_fl d L q.Off (q.Data ++ [c])
        rw [show o + 1 = q.Off + ((q.Data ++ [c]).length : Int) by simp; omega, this]
        simp
      · have := mgAll_fl d (L ++ [q]) o [c]
        simpa using this
theorem mgAll_flP : ∀ (l : List DPiece) (x : Option (List DPiece × DPiece)), (∀ p ∈ l, p.Data ≠ []) → mgAll x ((flP l).map one) = mgAll x l
  | [], _, _ => rfl
  | p :: l, x, h => by
    unfold flP
    rw [List.flatMap_cons, List.map_append, mgAll_app, mgAdd_fl x p (h p List.mem_cons_self)]
    exact mgAll_flP l _ (fun q hq => h q (List.mem_cons_of_mem _ hq))
theorem mem_fl : ∀ (d : List UInt8) (o x : Int) (c : UInt8), (x, c) ∈ fl o d ↔ o ≤ x ∧ d[(x - o).toNat]? = some c
  | [], o, x, c => by simp [fl]
  | b :: d, o, x, c => by
    have ih := mem_fl d (o + 1) x c
    simp only [fl, List.mem_cons, Prod.mk.injEq, ih]
    by_cases h : x = o
    · subst h
      simp
      constructor
      · rintro (h | h)
        · exact h.symm
        · omega
      · intro h; exact .inl h.symm
    · constructor
      · rintro (⟨h1, _⟩ | ⟨h1, h2⟩)
        · exact absurd h1 h
        · refine ⟨by omega, ?_⟩
          rw [show (x - o).toNat = (x - (o + 1)).toNat + 1 by omega]
          simpa using h2
      · rintro ⟨h1, h2⟩
        refine .inr ⟨by omega, ?_⟩
        rw [show (x - o).toNat = (x - (o + 1)).toNat + 1 by omega] at h2
        simpa using h2
theorem fl_rng {d : List UInt8} {o x : Int} {c : UInt8} (h : (x, c) ∈ fl o d) : o ≤ x ∧ x < o + d.length := by
  obtain ⟨h1, h2⟩ := (mem_fl d o x c).1 h
  have := (List.getElem?_eq_some_iff.1 h2).1
  omega
theorem fl_asc : ∀ (d : List UInt8) (o : Int), (fl o d).Pairwise (fun a b => a.1 < b.1)
  | [], _ => List.Pairwise.nil
  | c :: d, o => by
    refine List.Pairwise.cons (fun y hy => ?_) (fl_asc d (o + 1))
    have := fl_rng (x := y.1) (c := y.2) hy
    show o < y.1; omega
def ascP (l : List (Int × UInt8)) : Prop := l.Pairwise (fun a b => a.1 < b.1)
/-- the held pieces from e on: none empty, each behind the one ahead of it -/
def okH : Int → List DPiece → Prop
  | _, [] => True
  | e, p :: l => p.Data ≠ [] ∧ e ≤ p.Off ∧ okH (p.Off + p.Data.length) l
theorem flP_ge : ∀ {l : List DPiece} {e : Int}, okH e l → ∀ y ∈ flP l, e ≤ y.1
  | [], _, _, y, hy => by simp [flP] at hy
  | p :: l, e, h, y, hy => by
    obtain ⟨_, h2, h3⟩ := h
    unfold flP at hy
    rw [List.flatMap_cons, List.mem_append] at hy
    rcases hy with hy | hy
    · have := fl_rng (x := y.1) (c := y.2) hy; omega
    · have := flP_ge h3 y hy; omega
theorem pc_mem {a off to : Int} {data : List UInt8} (h0 : off ≤ a) (x : Int) (c : UInt8) : (x, c) ∈ fl a (pcOf a off data to).Data ↔ a ≤ x ∧ x < to ∧ (x, c) ∈ fl off data := by
  rw [mem_fl, mem_fl]
  unfold pcOf
  dsimp only
  rw [List.getElem?_drop, List.getElem?_take]
  constructor
  · rintro ⟨h1, h2⟩
    split at h2
    · rename_i h3
      refine ⟨h1, by omega, by omega, ?_⟩
      rw [show (x - off).toNat = (a - off).toNat + (x - a).toNat by omega]; exact h2
    · cases h2
  · rintro ⟨h1, h2, h3, h4⟩
    refine ⟨h1, ?_⟩
    rw [if_pos (by omega), show (a - off).toNat + (x - a).toNat = (x - off).toNat by omega]; exact h4
theorem flP_app (l m : List DPiece) : flP (l ++ m) = flP l ++ flP m := by simp [flP]
theorem flP_one (p : DPiece) : flP [p] = fl p.Off p.Data := by simp [flP]
theorem pcAdd_mem {a off to : Int} {data : List UInt8} (l : List DPiece) (h0 : off ≤ a) (x : Int) (c : UInt8) : (x, c) ∈ flP (pcAdd a off data to l) ↔ (x, c) ∈ flP l ∨ (a ≤ x ∧ x < to ∧ (x, c) ∈ fl off data) := by
  unfold pcAdd
  split
  · rw [flP_app, List.mem_append, flP_one]
    exact or_congr Iff.rfl (pc_mem h0 x c)
  · constructor
    · exact .inl
    · rintro (h | h)
      · exact h
      · omega
theorem pcAdd_asc {a off to : Int} {data : List UInt8} {l : List DPiece} (h : ascP (flP l)) (hl : ∀ y ∈ flP l, y.1 < a) : ascP (flP (pcAdd a off data to l)) := by
  unfold pcAdd
  split
  · unfold ascP at *
    rw [flP_app, List.pairwise_append]
    refine ⟨h, by rw [flP_one]; exact fl_asc _ _, fun y hy z hz => ?_⟩
    rw [flP_one] at hz
    have := fl_rng (x := z.1) (c := z.2) hz
    have := hl y hy
    have e : (pcOf a off data to).Off = a := rfl
    omega
  · exact h
theorem pcAdd_ne {a off to : Int} {data : List UInt8} {l : List DPiece} (h0 : off ≤ a) (ht : to ≤ off + data.length) (hl : ∀ p ∈ l, p.Data ≠ []) : ∀ p ∈ pcAdd a off data to l, p.Data ≠ [] := by
  unfold pcAdd
  split
  · intro p hp
    rcases List.mem_append.1 hp with hp | hp
    · exact hl p hp
    · rw [List.mem_singleton] at hp
      subst hp
      intro e
      have := congrArg List.length e
      unfold pcOf at this
      simp only [List.length_drop, List.length_take, List.length_nil] at this
      omega
  · exact hl
/-- the bytes that are there behind all -/
def spM (h : List DPiece) (off dn : Int) (data : List UInt8) (y : Int × UInt8) : Prop := y ∈ flP h ∨ (y ∈ fl off data ∧ dn ≤ y.1 ∧ ∀ z ∈ flP h, z.1 ≠ y.1)
structure PtI (h : List DPiece) (off dn : Int) (data : List UInt8) (e : Int) (x : Int × Bool × List DPiece) : Prop where
  asc : ascP (flP x.2.2)
  lt : ∀ y ∈ flP x.2.2, y.1 < e
  at_ : x.1 = max (max off dn) e
  put : x.2.1 = true → off + data.length ≤ x.1
  ne : ∀ p ∈ x.2.2, p.Data ≠ []
  mem : ∀ y : Int × UInt8, y ∈ flP x.2.2 ↔ y.1 < e ∧ spM h off dn data y
theorem okH_split : ∀ {h1 : List DPiece} {e : Int} {p : DPiece} {h2 : List DPiece}, okH e (h1 ++ p :: h2) → okH e h1 ∧ okH p.Off (p :: h2) ∧ (∀ y ∈ flP h1, y.1 < p.Off) ∧ e ≤ p.Off
  | [], e, p, h2, h => ⟨trivial, ⟨h.1, Int.le_refl _, h.2.2⟩, (by simp [flP]), h.2.1⟩
  | q :: h1, e, p, h2, h => by
    obtain ⟨a1, a2, a3⟩ := h
    obtain ⟨b1, b2, b3, b4⟩ := okH_split a3
    refine ⟨⟨a1, a2, b1⟩, b2, fun y hy => ?_, by omega⟩
    unfold flP at hy
    rw [List.flatMap_cons, List.mem_append] at hy
    rcases hy with hy | hy
    · have := fl_rng (x := y.1) (c := y.2) hy; omega
    · exact b3 y hy
theorem ptOne_I {h1 h2 : List DPiece} {p : DPiece} {off dn e : Int} {data : List UInt8} {x : Int × Bool × List DPiece} (hk : okH dn (h1 ++ p :: h2)) (he : e ≤ p.Off) (he1 : ∀ y ∈ flP h1, y.1 < e) (hde : dn ≤ e)
    (hx : PtI (h1 ++ p :: h2) off dn data e x) : PtI (h1 ++ p :: h2) off dn data (p.Off + p.Data.length) (ptOne off (off + data.length) data x p) := by
  obtain ⟨a, put, l⟩ := x
  obtain ⟨x1, x2, x3, x4, x5, x6⟩ := hx
  dsimp only at *
  obtain ⟨k1, k2, k3, k4⟩ := okH_split hk
  have hl : (if put = false ∧ a ≤ p.Off then pcAdd a off data (min p.Off (off + data.length)) l else l) = pcAdd a off data (min p.Off (off + data.length)) l := by
    split
    · rfl
    · rename_i hn
      unfold pcAdd
      rw [if_neg]
      intro hlt
      cases put
      · exact hn ⟨rfl, by omega⟩
      · have := x4 rfl; omega
  have hne := k2.1
  have hp0 : 0 < p.Data.length := List.length_pos_iff.2 hne
  have hflh : ∀ y, y ∈ flP (h1 ++ p :: h2) ↔ y ∈ flP h1 ∨ y ∈ fl p.Off p.Data ∨ y ∈ flP h2 := fun y => by
    rw [flP_app, List.mem_append]
    unfold flP
    rw [List.flatMap_cons, List.mem_append]
  have hge2 := flP_ge k2.2.2
  have oa : off ≤ a := by omega
  unfold ptOne
  dsimp only
  rw [hl]
  have hlt : ∀ y ∈ flP (pcAdd a off data (min p.Off (off + data.length)) l), y.1 < p.Off := fun y hy => by
    rcases (pcAdd_mem l oa y.1 y.2).1 hy with h | h
    · have := x2 y h; omega
    · omega
  refine ⟨?_, ?_, by dsimp only; omega, ?_, ?_, ?_⟩
  · dsimp only
    have h := pcAdd_asc (to := min p.Off (off + data.length)) (data := data) (off := off) x1 (a := a) (fun y hy => by have := x2 y hy; omega)
    unfold ascP at *
    rw [flP_app, List.pairwise_append]
    refine ⟨h, by rw [flP_one]; exact fl_asc _ _, fun y hy z hz => ?_⟩
    rw [flP_one] at hz
    have := fl_rng (x := z.1) (c := z.2) hz
    have := hlt y hy
    omega
  · intro y hy
    dsimp only at hy
    rw [flP_app, List.mem_append, flP_one] at hy
    rcases hy with hy | hy
    · have := hlt y hy; omega
    · have := fl_rng (x := y.1) (c := y.2) hy; omega
  · dsimp only
    intro h
    rw [Bool.or_eq_true, decide_eq_true_eq] at h
    rcases h with h | h
    · have := x4 h; omega
    · exact h
  · dsimp only
    intro q hq
    rcases List.mem_append.1 hq with hq | hq
    · exact pcAdd_ne oa (by omega) x5 q hq
    · rw [List.mem_singleton] at hq; subst hq; exact hne
  · dsimp only
    rintro ⟨z, c⟩
    rw [flP_app, List.mem_append, flP_one, pcAdd_mem l oa, x6]
    dsimp only
    unfold spM
    constructor
    · rintro ((⟨h, h'⟩ | h) | h)
      · exact ⟨by omega, h'⟩
      · refine ⟨by omega, .inr ⟨h.2.2, by dsimp only; omega, fun w hw => ?_⟩⟩
        dsimp only
        rcases (hflh w).1 hw with hw | hw | hw
        · have := he1 w hw; omega
        · have := fl_rng (x := w.1) (c := w.2) hw; omega
        · have := hge2 w hw; omega
      · have := fl_rng h
        exact ⟨by omega, .inl ((hflh _).2 (.inr (.inl h)))⟩
    · rintro ⟨hz, h⟩
      by_cases hze : z < e
      · exact .inl (.inl ⟨hze, h⟩)
      · rcases h with h | ⟨h, hd, hno⟩
        · rcases (hflh _).1 h with h | h | h
          · have := he1 _ h; dsimp only at this; omega
          · exact .inr h
          · have := hge2 _ h; dsimp only at this; omega
        · by_cases hzp : z < p.Off
          · have := fl_rng h
            dsimp only at hd
            refine .inl (.inr ⟨by omega, by omega, h⟩)
          · exfalso
            have hin : (z - p.Off).toNat < p.Data.length := by omega
            have hm : (z, p.Data[(z - p.Off).toNat]) ∈ fl p.Off p.Data := (mem_fl _ _ _ _).2 ⟨by omega, List.getElem?_eq_getElem hin⟩
            exact hno _ ((hflh _).2 (.inr (.inl hm))) rfl
theorem ptAll_I {off dn : Int} {data : List UInt8} : ∀ (h2 h1 : List DPiece) (e : Int) (x : Int × Bool × List DPiece), okH dn (h1 ++ h2) → okH e h2 → (∀ y ∈ flP h1, y.1 < e) → dn ≤ e → PtI (h1 ++ h2) off dn data e x →
    ∃ e', (∀ y ∈ flP (h1 ++ h2), y.1 < e') ∧ dn ≤ e' ∧ PtI (h1 ++ h2) off dn data e' (ptAll off (off + data.length) data x h2)
  | [], h1, e, x, hk, hk2, he, hde, hx => ⟨e, by rw [List.append_nil]; exact he, hde, hx⟩
  | p :: h2, h1, e, x, hk, hk2, he, hde, hx => by
    have h := ptOne_I hk hk2.2.1 he hde hx
    have hh : h1 ++ p :: h2 = (h1 ++ [p]) ++ h2 := by simp
    unfold ptAll
    rw [hh] at h hk ⊢
    refine ptAll_I h2 (h1 ++ [p]) _ _ hk hk2.2.2 (fun y hy => ?_) (by have := hk2.2.1; omega) h
    rw [flP_app, List.mem_append, flP_one] at hy
    rcases hy with hy | hy
    · have := he y hy; have := hk2.2.1; omega
    · have := fl_rng (x := y.1) (c := y.2) hy; omega
theorem ptL_I (g : DGather) (off : Int) (data : List UInt8) (hk : okH g.Done g.Held) : ascP (flP (ptL g off data)) ∧ (∀ p ∈ ptL g off data, p.Data ≠ []) ∧ ∀ y : Int × UInt8, y ∈ flP (ptL g off data) ↔ spM g.Held off g.Done data y := by
  obtain ⟨e, h1, h2, h3⟩ := ptAll_I (off := off) (dn := g.Done) (data := data) g.Held [] g.Done (max off g.Done, false, []) hk hk (by simp [flP]) (Int.le_refl _)
    ⟨by simp [ascP, flP], by simp [flP], by dsimp only; omega, by simp, by simp, fun y => by
      constructor
      · intro h; simp [flP] at h
      · rintro ⟨h, h'⟩
        unfold spM at h'
        rcases h' with h' | h'
        · have := flP_ge hk y h'; omega
        · omega⟩
  rw [List.nil_append] at h1 h3
  unfold ptL ptEnd
  generalize ptAll off (off + data.length) data (max off g.Done, false, []) g.Held = X at *
  obtain ⟨a, put, l⟩ := X
  obtain ⟨x1, x2, x3, x4, x5, x6⟩ := h3
  dsimp only at *
  have oa : off ≤ a := by omega
  refine ⟨pcAdd_asc x1 (fun y hy => by have := x2 y hy; omega), pcAdd_ne oa (Int.le_refl _) x5, ?_⟩
  rintro ⟨z, c⟩
  rw [pcAdd_mem l oa, x6]
  dsimp only
  unfold spM
  constructor
  · rintro (⟨h, h'⟩ | h)
    · exact h'
    · exact .inr ⟨h.2.2, by dsimp only; omega, fun w hw => by have := h1 w hw; dsimp only; omega⟩
  · intro h
    by_cases hze : z < e
    · exact .inl ⟨hze, h⟩
    · rcases h with h | ⟨h, hd, hno⟩
      · have := h1 _ h; dsimp only at this; omega
      · have := fl_rng h
        dsimp only at hd
        exact .inr ⟨by omega, by omega, h⟩
/-- a map's entries: what is put -/
def bput (x : Int) (c : UInt8) : List (Int × UInt8) → List (Int × UInt8)
  | [] => [(x, c)]
  | p :: r => if x = p.1 then (x, c) :: r else p :: bput x c r
def blook (x : Int) : List (Int × UInt8) → Option UInt8
  | [] => none
  | p :: r => if x = p.1 then some p.2 else blook x r
def bAll : List (Int × UInt8) → List (Int × UInt8) → List (Int × UInt8)
  | M, [] => M
  | M, y :: l => bAll (bput y.1 y.2 M) l
abbrev ks (l : List (Int × UInt8)) : List Int := l.map (·.1)
theorem bAll_app : ∀ (l m M : List (Int × UInt8)), bAll M (l ++ m) = bAll (bAll M l) m
  | [], _, _ => rfl
  | y :: l, m, M => bAll_app l m _
theorem blook_put (x y : Int) (c : UInt8) : ∀ (M : List (Int × UInt8)), blook x (bput y c M) = if x = y then some c else blook x M
  | [] => by simp [bput, blook]
  | p :: r => by
    have ih := blook_put x y c r
    unfold bput
    by_cases h : y = p.1
    · rw [if_pos h]
      simp only [blook]
      by_cases hx : x = y
      · rw [if_pos hx, if_pos hx]
      · rw [if_neg hx, if_neg hx, if_neg (by omega)]
    · rw [if_neg h]
      simp only [blook]
      by_cases hx : x = p.1
      · rw [if_pos hx, if_neg (by omega), if_pos hx]
      · rw [if_neg hx, ih, if_neg hx]
theorem ks_put (x y : Int) (c : UInt8) : ∀ (M : List (Int × UInt8)), x ∈ ks (bput y c M) ↔ x = y ∨ x ∈ ks M
  | [] => by simp [bput, ks]
  | p :: r => by
    have ih := ks_put x y c r
    unfold bput
    by_cases h : y = p.1
    · rw [if_pos h]
      simp only [ks, List.map_cons, List.mem_cons]
      constructor
      · rintro (h1 | h1)
        · exact .inl h1
        · exact .inr (.inr h1)
      · rintro (h1 | h1 | h1)
        · exact .inl h1
        · exact .inl (by omega)
        · exact .inr h1
    · rw [if_neg h]
      simp only [ks, List.map_cons, List.mem_cons] at ih ⊢
      rw [ih]
      constructor
      · rintro (h1 | h1 | h1) <;> simp [h1]
      · rintro (h1 | h1 | h1) <;> simp [h1]
theorem nd_put (y : Int) (c : UInt8) : ∀ (M : List (Int × UInt8)), (ks M).Nodup → (ks (bput y c M)).Nodup
  | [], _ => by simp [bput, ks]
  | p :: r, h => by
    have h' : p.1 ∉ ks r ∧ (ks r).Nodup := by simpa [ks] using h
    unfold bput
    by_cases hy : y = p.1
    · rw [if_pos hy]
      subst hy
      exact h
    · rw [if_neg hy]
      have ih := nd_put y c r h'.2
      have hk := ks_put p.1 y c r
      simp only [ks, List.map_cons, List.nodup_cons] at ih hk h' ⊢
      refine ⟨fun e => ?_, ih⟩
      rcases hk.1 e with e | e
      · omega
      · exact h'.1 e
theorem ks_all (x : Int) : ∀ (l M : List (Int × UInt8)), x ∈ ks (bAll M l) ↔ x ∈ ks M ∨ x ∈ ks l
  | [], M => by simp [bAll, ks]
  | y :: l, M => by
    have ih := ks_all x l (bput y.1 y.2 M)
    have hk := ks_put x y.1 y.2 M
    unfold bAll
    rw [ih, hk]
    simp only [ks, List.map_cons, List.mem_cons]
    constructor
    · rintro ((h | h) | h)
      · exact .inr (.inl h)
      · exact .inl h
      · exact .inr (.inr h)
    · rintro (h | h | h)
      · exact .inl (.inr h)
      · exact .inl (.inl h)
      · exact .inr h
theorem nd_all : ∀ (l M : List (Int × UInt8)), (ks M).Nodup → (ks (bAll M l)).Nodup
  | [], _, h => h
  | y :: l, M, h => nd_all l _ (nd_put y.1 y.2 M h)
theorem blook_no : ∀ (l M : List (Int × UInt8)) (x : Int), x ∉ ks l → blook x (bAll M l) = blook x M
  | [], _, _, _ => rfl
  | y :: l, M, x, h => by
    simp only [ks, List.map_cons, List.mem_cons, not_or] at h
    unfold bAll
    rw [blook_no l _ x h.2, blook_put, if_neg h.1]
theorem blook_in : ∀ (l M : List (Int × UInt8)) (x : Int) (c : UInt8), ascP l → (x, c) ∈ l → blook x (bAll M l) = some c
  | [], _, _, _, _, h => by cases h
  | y :: l, M, x, c, ha, h => by
    obtain ⟨h1, h2⟩ := List.pairwise_cons.1 ha
    unfold bAll
    rcases List.mem_cons.1 h with h | h
    · subst h
      rw [blook_no l _ x (fun e => by
        obtain ⟨z, hz, e⟩ := List.mem_map.1 e
        have := h1 z hz
        dsimp only at this; omega), blook_put, if_pos rfl]
    · exact blook_in l _ x c h2 h
theorem asc_uniq : ∀ {l m : List Int}, l.Pairwise (· < ·) → m.Pairwise (· < ·) → (∀ x, x ∈ l ↔ x ∈ m) → l = m
  | [], [], _, _, _ => rfl
  | [], y :: m, _, _, h => by have := (h y).2 List.mem_cons_self; cases this
  | x :: l, [], _, _, h => by have := (h x).1 List.mem_cons_self; cases this
  | x :: l, y :: m, hl, hm, h => by
    obtain ⟨l1, l2⟩ := List.pairwise_cons.1 hl
    obtain ⟨m1, m2⟩ := List.pairwise_cons.1 hm
    have hxy : x = y := by
      rcases List.mem_cons.1 ((h x).1 List.mem_cons_self) with e | e
      · exact e
      · rcases List.mem_cons.1 ((h y).2 List.mem_cons_self) with f | f
        · exact f.symm
        · have := m1 x e; have := l1 y f; omega
    subst hxy
    rw [asc_uniq l2 m2 (fun z => ?_)]
    constructor
    · intro hz
      rcases List.mem_cons.1 ((h z).1 (List.mem_cons_of_mem _ hz)) with e | e
      · have := l1 z hz; omega
      · exact e
    · intro hz
      rcases List.mem_cons.1 ((h z).2 (List.mem_cons_of_mem _ hz)) with e | e
      · have := m1 z hz; omega
      · exact e
/-- the bytes in the order in which they are put in the map -/
def putsOf (g : DGather) (off : Int) (data : List UInt8) : List (Int × UInt8) := (fl off data).filter (fun y => decide (g.Done ≤ y.1)) ++ flP g.Held
theorem flP_asc : ∀ {l : List DPiece} {e : Int}, okH e l → ascP (flP l)
  | [], _, _ => by simp [ascP, flP]
  | p :: l, e, h => by
    have ih := flP_asc h.2.2
    have hg := flP_ge h.2.2
    unfold ascP at *
    unfold flP at *
    rw [List.flatMap_cons, List.pairwise_append]
    refine ⟨fl_asc _ _, ih, fun y hy z hz => ?_⟩
    have := fl_rng (x := y.1) (c := y.2) hy
    have := hg z hz
    omega
/-- what the map holds is what the pieces hold -/
theorem put_places (g : DGather) (off : Int) (data : List UInt8) (hk : okH g.Done g.Held) (P : List Int) (hP : P.Pairwise (· ≤ ·)) (hp : P.Perm (ks (bAll [] (putsOf g off data)))) :
    P.map (fun x => (x, (blook x (bAll [] (putsOf g off data))).getD 0)) = flP (ptL g off data) := by
  obtain ⟨h1, h2, h3⟩ := ptL_I g off data hk
  have hnd : P.Nodup := hp.nodup_iff.2 (nd_all _ _ (by simp [ks]))
  have hfa : ascP ((fl off data).filter (fun y => decide (g.Done ≤ y.1))) := List.Pairwise.filter _ (fl_asc data off)
  have hmem : ∀ x, x ∈ P ↔ x ∈ ks (flP (ptL g off data)) := fun x => by
    rw [hp.mem_iff, ks_all]
    constructor
    · rintro (h | h)
      · cases h
      · by_cases hh : x ∈ ks (flP g.Held)
        · obtain ⟨z, hz, rfl⟩ := List.mem_map.1 hh
          exact List.mem_map.2 ⟨z, (h3 z).2 (.inl hz), rfl⟩
        · unfold putsOf ks at h
          rw [List.map_append, List.mem_append] at h
          rcases h with h | h
          · obtain ⟨z, hz, rfl⟩ := List.mem_map.1 h
            rw [List.mem_filter, decide_eq_true_eq] at hz
            exact List.mem_map.2 ⟨z, (h3 z).2 (.inr ⟨hz.1, hz.2, fun w hw e => hh (List.mem_map.2 ⟨w, hw, e⟩)⟩), rfl⟩
          · exact absurd h hh
    · intro h
      refine .inr ?_
      obtain ⟨z, hz, rfl⟩ := List.mem_map.1 h
      unfold putsOf ks
      rw [List.map_append, List.mem_append]
      rcases (h3 z).1 hz with h | ⟨ha, hb, _⟩
      · exact .inr (List.mem_map.2 ⟨z, h, rfl⟩)
      · exact .inl (List.mem_map.2 ⟨z, List.mem_filter.2 ⟨ha, decide_eq_true hb⟩, rfl⟩)
  have hPe : P = ks (flP (ptL g off data)) := by
    refine asc_uniq ?_ ?_ hmem
    · have : P.Pairwise (fun a b => a ≤ b ∧ a ≠ b) := by
        rw [List.pairwise_and_iff]
        exact ⟨hP, hnd⟩
      exact this.imp (fun h => by omega)
    · unfold ks
      rw [List.pairwise_map]
      exact h1
  rw [hPe]
  unfold ks
  rw [List.map_map]
  conv => rhs; rw [← List.map_id (flP (ptL g off data))]
  refine List.map_congr_left (fun y hy => ?_)
  show (y.1, (blook y.1 (bAll [] (putsOf g off data))).getD 0) = y
  have : blook y.1 (bAll [] (putsOf g off data)) = some y.2 := by
    unfold putsOf
    rw [bAll_app]
    rcases (h3 y).1 hy with h | ⟨ha, hb, hno⟩
    · exact blook_in _ _ _ _ (flP_asc hk) h
    · rw [blook_no _ _ _ (fun e => by
        obtain ⟨z, hz, e⟩ := List.mem_map.1 e
        exact hno z hz e)]
      exact blook_in _ _ _ _ hfa (List.mem_filter.2 ⟨ha, decide_eq_true hb⟩)
  rw [this]; rfl
/-- the pieces out of the sorted places are the merged ones -/
theorem put_same (g : DGather) (off : Int) (data : List UInt8) (hk : okH g.Done g.Held) (P : List Int) (hP : P.Pairwise (· ≤ ·)) (hp : P.Perm (ks (bAll [] (putsOf g off data)))) :
    mgL (P.map (fun x => one (x, (blook x (bAll [] (putsOf g off data))).getD 0))) = mgL (ptL g off data) := by
  have h := put_places g off data hk P hP hp
  have : P.map (fun x => one (x, (blook x (bAll [] (putsOf g off data))).getD 0)) = (flP (ptL g off data)).map one := by
    rw [← h, List.map_map]; rfl
  rw [this]
  unfold mgL
  rw [mgAll_flP _ _ (ptL_I g off data hk).2.1]
end Go.Proofs.Ytendheafcbickaa
