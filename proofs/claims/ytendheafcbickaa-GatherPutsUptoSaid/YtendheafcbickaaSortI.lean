/-
  sort.Ints, in the value calculus.
-/
import Derived.Test.YtendheafcbickaaIntsLay
import Derived.Test.YtendheafcbickaaGA
import Derived.Test.YtendheafcbickaaGC
import Derived.Test.YtendheafcbickaaAbsK
import Derived.Sort.OwnSortedInts
set_option linter.unusedVariables false
set_option linter.unusedSimpArgs false
set_option linter.unusedVariables false
namespace Go.Proofs.Ytendheafcbickaa
open Go.Shelf Go.RowKit Go.Lib Go.Sort
set_option maxRecDepth 100000
attribute [local irreducible] Run RunL QStep GStep Fn Less PL FnM

theorem q_idx0 {P : Program} {o : Oper} {st : St} {G : List Nat} {T : Nat} {x y : Operand} {s : ByteArray} {k : IntKind} (ho : o.op = .index T x y) (hx : opE st.env x = some (.lit (.string s))) (hy : opE st.env y = some (.lit (.int k 0))) (hT : P.underlying T = some .string) (hn : Nat.blt 0 s.size = true) (hs : s.data.toList.getD 0 0 = 0) : QStep P G o st (.lit (.int .u8 0)) := by
  have := q_index_str (P := P) (G := G) (n := 0) ho hx hy rfl (Nat.le_of_ble_eq_true hn) hT
  rw [hs] at this
  exact this
theorem bitsLen0_fn : Fn Try.prog 18 [.lit (.int .u64 0)] (.lit (.int .i64 0)) := by
  have h1 : Fn Try.prog 29 [.lit (.int .u64 0)] (.lit (.int .i64 0)) := by
    refine fn_of_run (by kernel_rfl) Try.func29 rfl (by kernel_rfl) ?_
    (repeat' first | refine s_i (hq := q_idx0 rfl rfl rfl rfl (by kernel_rfl) (by kernel_rfl)) (h := ?_) | (refine goI_ ?_; ((repeat' first | exact True.intro | refine Two.mk ?_ ?_); all_goals intros)) | refine s_i (h := ?_) | refine s_i (hq := q_index_ro rfl rfl rfl (by first | exact lit0 | exact lit1 | exact lit2 | exact lit3 | rfl) (by simp only [List.length_cons, List.length_nil]; omega) rfl rfl rfl rfl) (h := ?_) | refine p_i (h := ?_) | refine p_ih (h := ?_) | refine s_lit (h := ?_) | refine p_lit (h := ?_) | refine p_lit0 (h := ?_) | refine s_lit0 (h := ?_) | refine s_ixa (h := ?_) | refine s_insert (h := ?_) | (refine s_sadd rfl ?_ (h := ?_); (focus (first | omega | (simp only [List.length_append, List.length_map, List.length_cons, List.length_nil, List.length_take, List.length_drop]; omega)))) | (refine p_sadd rfl ?_ (h := ?_); (focus (first | omega | (simp only [List.length_append, List.length_map, List.length_cons, List.length_nil, List.length_take, List.length_drop]; omega)))) | fail "")
    all_goals first
      | (exact endwA_)
      | skip
  refine fn_of_run (by kernel_rfl) Try.func18 rfl (by kernel_rfl) ?_
  (repeat' first | (refine s_call (h1) (h := ?_)) | (refine p_call (h1) (h := ?_)) | (refine go_ ?_; ((repeat' first | exact True.intro | refine Two.mk ?_ ?_); all_goals intros)) | fail "")
  all_goals first
    | (exact endwA_)
    | skip
theorem insert0_fnm : FnM Try.prog 19 [.own 0, .lit (.int .i64 0), .lit (.int .i64 0)] [(0, some (.row 3 1 []))] 1 (.tup []) [(0, some (.row 3 1 []))] 1 := by
  refine fnm_of_run (by kernel_rfl) Try.func19 rfl (by kernel_rfl) (by rfl) ?_
  (repeat' first | (refine go_ ?_; ((repeat' first | exact True.intro | refine Two.mk ?_ ?_); all_goals intros)) | fail "")
  refine r_for (fun _ : Unit => ⟨[(0, .own 0), (1, .lit (.int .i64 0)), (2, .lit (.int .i64 0)), (6, .lit (.int .i64 1))], [(0, some (.row 3 1 []))], 1, Try.f19.ntmps⟩) (fun _ => True) (fun _ => 0) () trivial (by (exact lessA_)) ?_
  rintro ⟨⟩ -
  (repeat' first | (refine go_ ?_; ((repeat' first | exact True.intro | refine Two.mk ?_ ?_); all_goals intros)) | fail "")
  all_goals first
    | (exact endmA_)
    | skip
theorem pdq0_fnm : FnM Try.prog 17 [.own 0, .lit (.int .i64 0), .lit (.int .i64 0), .lit (.int .i64 0)] [(0, some (.row 3 1 []))] 1 (.tup []) [(0, some (.row 3 1 []))] 1 := by
  refine fnm_of_run (by kernel_rfl) Try.func17 rfl (by kernel_rfl) (by rfl) ?_
  (repeat' first | (refine go_ ?_; ((repeat' first | exact True.intro | refine Two.mk ?_ ?_); all_goals intros)) | fail "")
  refine r_for (fun _ : Unit => ⟨[(0, .own 0), (1, .lit (.int .i64 0)), (2, .lit (.int .i64 0)), (3, .lit (.int .i64 0)), (8, .lit (.bool true)), (9, .lit (.bool true))], [(0, some (.row 3 1 []))], 1, Try.f17.ntmps⟩) (fun _ => True) (fun _ => 0) () trivial (by (exact lessA_)) ?_
  rintro ⟨⟩ -
  (repeat' first | (refine s_callM [0] (insert0_fnm) (h := ?_)) | (refine s_callM0 [0] (insert0_fnm) (h := ?_)) | (refine p_callM [0] (insert0_fnm) (h := ?_)) | (refine go_ ?_; ((repeat' first | exact True.intro | refine Two.mk ?_ ?_); all_goals intros)) | fail "")
  all_goals first
    | (exact endmA_)
    | skip
theorem slSort0_fnm : FnM Try.prog 16 [.own 0] [(0, some (.row 3 1 []))] 1 (.tup []) [(0, some (.row 3 1 []))] 1 := by
  refine fnm_of_run (by kernel_rfl) Try.func16 rfl (by kernel_rfl) (by rfl) ?_
  (repeat' first | (refine s_call (bitsLen0_fn) (h := ?_)) | (refine p_call (bitsLen0_fn) (h := ?_)) | (refine s_callM [0] (pdq0_fnm) (h := ?_)) | (refine s_callM0 [0] (pdq0_fnm) (h := ?_)) | (refine p_callM [0] (pdq0_fnm) (h := ?_)) | (refine go_ ?_; ((repeat' first | exact True.intro | refine Two.mk ?_ ?_); all_goals intros)) | fail "")
  all_goals first
    | (exact endmA_)
    | skip
theorem sortInts0_fnm : FnM Try.prog 14 [.own 0] [(0, some (.row 3 1 []))] 1 (.tup []) [(0, some (.row 3 1 []))] 1 := by
  refine fnm_of_run (by kernel_rfl) Try.func14 rfl (by kernel_rfl) (by rfl) ?_
  (repeat' first | (refine s_callM [0] (slSort0_fnm) (h := ?_)) | (refine s_callM0 [0] (slSort0_fnm) (h := ?_)) | (refine p_callM [0] (slSort0_fnm) (h := ?_)) | (refine go_ ?_; ((repeat' first | exact True.intro | refine Two.mk ?_ ?_); all_goals intros)) | fail "")
  all_goals first
    | (exact endmA_)
    | skip
theorem encI_at (l : List Int) (i : Nat) (hi : i < l.length) : eAt (l.map encI) i = encI (l.getD i 0) := by
  unfold eAt
  rw [List.getD_eq_getElem?_getD, List.getD_eq_getElem?_getD, List.getElem?_map, List.getElem?_eq_getElem hi]
  rfl
/-- the numbers of l, the lowest first -/
noncomputable def srt (l : List Int) : List Int := l.mergeSort fun x y => decide (x ≤ y)
theorem srt_len (l : List Int) : (srt l).length = l.length := by unfold srt; exact List.length_mergeSort l
theorem sortInts_fnm (l : List Int) (hl : l.length < 4611686018427387904) : FnM Try.prog 14 [.own 0] [(0, some (.row 3 1 (l.map encI)))] 1 (.tup []) [(0, some (.row 3 1 ((srt l).map encI)))] 1 := by
  by_cases h0 : l = []
  · subst h0
    rw [show srt [] = [] from by simp [srt]]
    exact sortInts0_fnm
  have hok : fnOk Try.prog 14 = true := by kernel_rfl
  unfold FnM
  refine ⟨hok, Nat.le_refl _, fun F base w0 ρ w vals hsz hH hargs => ?_⟩
  have hv := own_inv (hargs 0 (by simp))
  obtain ⟨hs0, v, xs, e1, ⟨e2, e2b⟩, e3, e4⟩ := hH.blk 0 _ rfl
  rw [hv] at e1
  injection e1 with e1
  have hl0 : 0 < l.length := List.length_pos_iff.2 h0
  rcases e2.2 with ⟨_, hn⟩ | ⟨g, cap, cur, hve, hgb, hg, hnc, hcm, hcs, htake⟩
  · rw [List.length_map] at hn; omega
  rw [List.length_map] at hve hnc htake
  have hxs : xs = l.map (Value.int .i64) := by
    have hlen : xs.length = l.length := by have := e2.1; rw [List.length_map] at this; omega
    refine List.ext_getElem? (fun j => ?_)
    by_cases hj : j < l.length
    · obtain ⟨u, hu, hp, _⟩ := e4 j 0 (by rw [List.length_map]; exact hj) (by omega)
      rw [Nat.mul_one, Nat.add_zero] at hu
      rw [encI_at l j hj] at hp
      rw [hu]
      cases hp with
      | lit v h => simp [List.getD_eq_getElem?_getD, hj]
    · rw [List.getElem?_eq_none (by omega), List.getElem?_eq_none (by simp; omega)]
  have htk : cur.toList.take l.length = l.map (Value.int .i64) := by rw [← hxs, ← htake, Nat.mul_one]
  have hHo := holds_of_blockI hg htk
  have hlt := (Array.getElem?_eq_some_iff.1 hg).1
  have hvals : vals = #[.slice (some ⟨g, 0, none⟩) l.length cap] := by
    refine Array.ext (by simpa using hsz) (fun j h1 h2 => ?_)
    simp at h2
    subst h2
    rw [Array.getD_eq_getD_getElem?, Array.getElem?_eq_getElem h1] at e1
    rw [← hve]; exact e1
  rw [hvals]
  refine (Any.sort_Ints si191 g 0 cap l w hHo hlt hl).mono ?_
  rintro e w' ⟨rfl, n, os, rfl⟩
  have hv' : ρ 0 = some v := by rw [hv, e1]
  have hown := ownsRow_sortedI (n := n) (os := os) (ts := srt l) (srt_len l) (Nat.zero_le g) hg hnc hcm (by omega)
  have hns : ¬ Stab F ρ [(0, some (.row 3 1 (l.map encI)))] g := fun hs => hs.2 0 _ _ rfl rfl hv' (by rw [hve]; rfl)
  obtain ⟨q1, q2, q3⟩ := hH.step (ρ' := ρ) (heap' := [(0, some (.row 3 1 ((srt l).map encI)))]) (next' := 1) 0 (some g) (grownBy_sortedI (srt l).toArray)
    (fun k hk => by injection hk with hk; subst hk; exact ⟨e2b g (by rw [hve]; rfl), hns⟩) (fun _ _ h => h) (fun id u h => hH.sup id u h)
    (fun i B hne hB => by
      rw [getH_new, if_neg (Ne.symm hne)] at hB
      simp [getH] at hB)
    (fun B u b' hB ho hu hb => by
      rw [hv'] at hu; injection hu with hu; subst hu
      refine .inr ⟨fun hs => hs.2 0 _ _ rfl rfl hv' hb, fun i B' u' hne hB' ho' hu' hb' => ?_⟩
      rw [getH_new, if_neg (Ne.symm hne)] at hB'
      simp [getH] at hB')
    (fun B hB hS hsame => by
      rw [getH_new, if_pos rfl] at hB; injection hB with hB; subst hB
      refine ⟨by omega, v, (srt l).map (Value.int .i64), hv', ⟨by rw [List.length_map, hve, srt_len]; exact hown, e2b⟩, fun i hi => ?_, fun i j hi hj => ?_⟩
      · rw [List.length_map] at hi
        rw [encI_at _ i hi]; rfl
      · rw [List.length_map] at hi
        obtain rfl : j = 0 := by omega
        refine ⟨.int .i64 ((srt l).getD i 0), by rw [Nat.mul_one, Nat.add_zero]; simp [List.getD_eq_getElem?_getD, hi], ?_, rfl⟩
        rw [encI_at _ i hi]
        exact .lit _ rfl)
  exact ⟨.tuple #[], ρ, rfl, q1, .tup rfl (fun j hj => by simp at hj), fun _ _ => rfl⟩
end Go.Proofs.Ytendheafcbickaa
