/-
  ranges.Check, Has and the reference's: what each answers. No condition.
-/
import Derived.Test.YtmfpfpllipogiaaTypes
import Derived.Deep.RegionWith
import Derived.BigQuiet
set_option linter.unusedSimpArgs false
set_option linter.unusedVariables false
namespace Go.Proofs.Ytmfpfpllipogiaa
open Go.RowKit
@[no_fallback] local macro_rules | `(tactic| go_region) => `(tactic| fail "at a region")

/-- P3.1 -/
def goodR (r : DRange) : Bool := decide (0 ≤ r.Lo) && decide (r.Lo ≤ r.Hi) && decide (r.Hi ≤ 4611686018427387903)
def getR (l : List DRange) (i : Nat) : DRange := l.getD i ⟨0, 0⟩
def okAt (l : List DRange) (i : Nat) : Bool := goodR (getR l i) && (decide (i = 0) || decide ((getR l (i - 1)).Hi + 1 < (getR l i).Lo))
def rangesOk (l : List DRange) : Prop := ∀ i, i < l.length → okAt l i = true
instance (l : List DRange) : Decidable (rangesOk l) := inferInstanceAs (Decidable (∀ i, i < l.length → _))
def rangesFault (l : List DRange) : Int := if rangesOk l then 0 else 3

abbrev RRanges := RSlice 2 16 RRange

theorem RRanges.at_ {S : Foot} {w : World} {cs : List Value} {l : List DRange} (h : RRanges S w cs l) :
    ∃ A c, cs = [.slice A l.length c] ∧ l.length ≤ c ∧ c ≤ 9223372036854775807 ∧ l.length * 16 ≤ 140737488355328 ∧
      (0 < l.length → ∃ b off, A = some ⟨b, off, none⟩ ∧ S b ∧ ∀ i, i < l.length → w.cell? ⟨b, off + i * 2, none⟩ = some (.int .i64 (getR l i).Lo) ∧ w.cell? ⟨b, off + i * 2 + 1, none⟩ = some (.int .i64 (getR l i).Hi) ∧ I64 (getR l i).Lo ∧ I64 (getR l i).Hi) := by
  obtain ⟨A, c, rfl, hl, hm, hc, he⟩ := h.open_
  unfold maxLen at hm
  refine ⟨A, c, rfl, hl, hm, hc, fun h0 => ?_⟩
  obtain ⟨b, off, rfl, hS, hi⟩ := he h0
  refine ⟨b, off, rfl, hS, fun i hlt => ?_⟩
  obtain ⟨es, h1, h2, h3⟩ := hi i hlt
  obtain ⟨he, h4, h5⟩ := h3
  subst he
  have e : getR l i = l[i] := by unfold getR; rw [List.getD_eq_getElem?_getD, List.getElem?_eq_getElem hlt, Option.getD_some]
  rw [e]
  exact ⟨h2 0 (by omega), h2 1 (by omega), h4, h5⟩

set_option maxHeartbeats 400000 in
theorem good_calls (a b : Int) (w : World) :
    Calls Try.prog 58 #[.agg #[.int .i64 a, .int .i64 b]] w fun e w' => e = .returned (.bool (goodR ⟨a, b⟩)) ∧ Below w.heap.size w w' := by
  go_enter Try.func58, Try.ntmps58
  go_wp2
  all_goals
    go_ret
    refine ⟨ret_bool ?_, by go_grown⟩
    unfold goodR
    simp
    try omega

set_option maxHeartbeats 400000 in
theorem isRange_calls (a b : Int) (w : World) :
    Calls Try.prog 59 #[.agg #[.int .i64 a, .int .i64 b]] w fun e w' => e = .returned (.bool (goodR ⟨a, b⟩)) ∧ Below w.heap.size w w' := by
  go_enter Try.func59, Try.ntmps59
  go_wp2_with (go_at_call 56; refine (upTo_calls _ _ _).mono ?_; rintro e _ ⟨rfl, rfl⟩)
  all_goals
    go_ret
    refine ⟨ret_bool ?_, by go_grown⟩
    unfold goodR
    first | (simp [*]; done) | (simp; omega)

set_option maxRecDepth 100000 in
set_option maxHeartbeats 2000000 in
theorem rangesCheck_calls (S : Foot) (v : Value) (l : List DRange) (w : World) (hS : ∀ b, S b → b < w.heap.size) (h : RRanges S w [v] l) :
    Calls Try.prog 30 #[v] w fun e w' => e = .returned (.int .i64 (rangesFault l)) ∧ Below w.heap.size w w' := by
  obtain ⟨A, c, hv, hl, hc, hl47, he⟩ := h.at_
  injection hv with hv _
  subst hv
  have HE := Lib.hid he
  clear h he
  go_enter Try.func30, Try.ntmps30
  go_wp2
  go_loopw [3, 4, 7] (fun _ _ i wr => ∃ k : Nat, k ≤ l.length ∧ i = .int .i64 k ∧ (∀ j, j < k → okAt l j = true) ∧ Below w.heap.size w wr) (fun _ _ i _ => l.length - (intOf i).toNat)
  case atStart => exact ⟨0, by omega, by go_num, fun j hj => by omega, Below.refl _ _⟩
  case round =>
    obtain ⟨k, hk, rfl, hok, hb⟩ := hrel
    have HOK := Lib.hid hok
    clear hok
    have hbz := hb.size
    by_cases hkk : k < l.length
    · obtain ⟨b, off, rfl, hSb, hcell⟩ := HE.out (by omega)
      have hbl := hS b hSb
      obtain ⟨c0, c1, i0, i1⟩ := hcell k hkk
      rw [← hb.cell (p := ⟨b, off + k * 2, none⟩) hbl] at c0
      rw [← hb.cell (p := ⟨b, off + k * 2 + 1, none⟩) hbl] at c1
      have HC := Lib.hid hcell
      clear hcell HE
      have hG := good_calls (getR l k).Lo (getR l k).Hi
      by_cases hg : goodR (getR l k) = true
      · rw [show goodR ⟨(getR l k).Lo, (getR l k).Hi⟩ = true from hg] at hG
        have HG := Lib.hid hG
        have HGG := Lib.hid hg
        clear hG hg
        by_cases hk0 : k = 0
        · have hk1 : ¬ 0 < k := by omega
          have HOK1 : Hid (okAt l k = true) := by
            show okAt l k = true
            unfold okAt
            rw [HGG.out, hk0]
            rfl
          clear hk0
          generalize (getR l k).Lo = x at *
          generalize (getR l k).Hi = y at *
          go_wp2
          have Q0 : Hid (∀ W, Since (wr.alloc (.cells #[.int .i64 x, .int .i64 y] 79)) W → ∀ o, W.cell? ⟨wr.heap.size, o, none⟩ = (wr.alloc (.cells #[.int .i64 x, .int .i64 y] 79)).cell? ⟨wr.heap.size, o, none⟩) := fun W h => h.cell _ (by go_size)
          (refine wp_region_below (by kernel_rfl) (by kernel_rfl) ?_; (repeat (first | (go_big_quiet_skip) | (go_big_quiet_want; first | (go_big_quiet_op; go_big_quiet_on) | (go_simp; go_big_quiet_on) | (go_simp; apply Exists.intro; refine ⟨fun W hW => ?_, ?_⟩; (focus (have Q0_ := Q0.out W hW; first | (with_reducible exact rfl) | (go_simp; done) | (go_simp; with_reducible exact rfl) | (go_simp; (go_at_call 58; refine (HG.out _).mono ?_; rintro e w1 ⟨rfl, hb⟩; exact ⟨rfl, hW.into hb⟩)) | (go_at_call 58; refine (HG.out _).mono ?_; rintro e w1 ⟨rfl, hb⟩; exact ⟨rfl, hW.into hb⟩))); go_big_quiet_on)))); refine wpQuiet_nil ?_; intro w1 hb1)
          have hb2 : Below w.heap.size w w1 := binto (by go_grown) (by go_size) hb1
          go_wp2
          refine ⟨⟨k + 1, by omega, by go_num, fun j hj => ?_, hb2⟩, by simp [intOf]; omega⟩
          by_cases hjk : j < k
          · exact HOK.out j hjk
          · rw [show j = k by omega]; exact HOK1.out
        · obtain ⟨m, hm⟩ : ∃ m, k = m + 1 := ⟨k - 1, by omega⟩
          obtain ⟨_, e1, _, j1⟩ := HC.out m (by omega)
          rw [← hb.cell (p := ⟨b, off + m * 2 + 1, none⟩) hbl] at e1
          have hgm : goodR (getR l m) = true := by
            have := HOK.out m (by omega)
            unfold okAt at this
            rw [Bool.and_eq_true] at this
            exact this.1
          unfold goodR at hgm
          simp only [Bool.and_eq_true, decide_eq_true_eq] at hgm
          obtain ⟨⟨g1, g2⟩, g3⟩ := hgm
          have hk1 : decide (0 < k) = true := by simp; omega
          have hm2 : (k : Int) - 1 = (m : Int) := by omega
          have HM := Lib.hid hm
          have hml : m < l.length := by omega
          have hm3 : IntKind.i64.wrap (m : Int) = (m : Int) := by rw [IntKind.wrap_i64]; omega
          have hz0 : 0 ≤ (getR l m).Hi := by omega
          have hOK : okAt l k = decide ((getR l m).Hi + 1 < (getR l k).Lo) := by
            unfold okAt
            rw [HGG.out, show k - 1 = m from by omega, show decide (k = 0) = false from by simp; omega]
            simp
          clear g1 g2 hk0 hm
          generalize (getR l k).Lo = x at *
          generalize (getR l k).Hi = y at *
          generalize (getR l m).Hi = z at *
          have hm4 : IntKind.i64.wrap (z + 1) = z + 1 := by rw [IntKind.wrap_i64]; omega
          by_cases hlo : z + 1 < x
          · have HOK1 : Hid (okAt l k = true) := by show okAt l k = true; rw [hOK]; simpa using hlo
            have hlo2 : decide (x ≤ z + 1) = false := by simp; omega
            clear hOK
            go_wp2
            have Q0 : Hid (∀ W, Since (wr.alloc (.cells #[.int .i64 x, .int .i64 y] 79)) W → ∀ o, W.cell? ⟨wr.heap.size, o, none⟩ = (wr.alloc (.cells #[.int .i64 x, .int .i64 y] 79)).cell? ⟨wr.heap.size, o, none⟩) := fun W h => h.cell _ (by go_size)
            have Q1 : Hid (∀ W, Since (wr.alloc (.cells #[.int .i64 x, .int .i64 y] 79)) W → W.cell? ⟨b, off + m * 2 + 1, none⟩ = some (.int .i64 z)) := fun W h => by rw [h.cell _ (by go_size), World.cell?_alloc_lt _ _ _ (by simp; omega)]; exact e1
            (refine wp_region_below (by kernel_rfl) (by kernel_rfl) ?_; (repeat (first | (go_big_quiet_skip) | (go_big_quiet_want; first | (go_big_quiet_op; go_big_quiet_on) | (go_simp; go_big_quiet_on) | (go_simp; apply Exists.intro; refine ⟨fun W hW => ?_, ?_⟩; (focus (have Q0_ := Q0.out W hW; have Q1_ := Q1.out W hW; first | (with_reducible exact rfl) | (go_simp; done) | (go_simp; with_reducible exact rfl) | (go_simp; (go_at_call 58; refine (HG.out _).mono ?_; rintro e w1 ⟨rfl, hb⟩; exact ⟨rfl, hW.into hb⟩)) | (go_at_call 58; refine (HG.out _).mono ?_; rintro e w1 ⟨rfl, hb⟩; exact ⟨rfl, hW.into hb⟩))); go_big_quiet_on)))); refine wpQuiet_nil ?_; intro w1 hb1)
            have hb2 : Below w.heap.size w w1 := binto (by go_grown) (by go_size) hb1
            go_wp2
            refine ⟨⟨k + 1, by omega, by go_num, fun j hj => ?_, hb2⟩, by simp [intOf]; omega⟩
            by_cases hjk : j < k
            · exact HOK.out j hjk
            · rw [show j = k by omega]; exact HOK1.out
          · have HOK1 : Hid (¬ rangesOk l) := by
              show ¬ rangesOk l
              intro hall
              have := hall k hkk
              rw [hOK] at this
              exact hlo (by simpa using this)
            have hlo2 : decide (x ≤ z + 1) = true := by simp; omega
            clear hOK
            go_wp2
            have Q0 : Hid (∀ W, Since (wr.alloc (.cells #[.int .i64 x, .int .i64 y] 79)) W → ∀ o, W.cell? ⟨wr.heap.size, o, none⟩ = (wr.alloc (.cells #[.int .i64 x, .int .i64 y] 79)).cell? ⟨wr.heap.size, o, none⟩) := fun W h => h.cell _ (by go_size)
            have Q1 : Hid (∀ W, Since (wr.alloc (.cells #[.int .i64 x, .int .i64 y] 79)) W → W.cell? ⟨b, off + m * 2 + 1, none⟩ = some (.int .i64 z)) := fun W h => by rw [h.cell _ (by go_size), World.cell?_alloc_lt _ _ _ (by simp; omega)]; exact e1
            (refine wp_region_below (by kernel_rfl) (by kernel_rfl) ?_; (repeat (first | (go_big_quiet_skip) | (go_big_quiet_want; first | (go_big_quiet_op; go_big_quiet_on) | (go_simp; go_big_quiet_on) | (go_simp; apply Exists.intro; refine ⟨fun W hW => ?_, ?_⟩; (focus (have Q0_ := Q0.out W hW; have Q1_ := Q1.out W hW; first | (with_reducible exact rfl) | (go_simp; done) | (go_simp; with_reducible exact rfl) | (go_simp; (go_at_call 58; refine (HG.out _).mono ?_; rintro e w1 ⟨rfl, hb⟩; exact ⟨rfl, hW.into hb⟩)) | (go_at_call 58; refine (HG.out _).mono ?_; rintro e w1 ⟨rfl, hb⟩; exact ⟨rfl, hW.into hb⟩))); go_big_quiet_on)))); refine wpQuiet_nil ?_; intro w1 hb1)
            have hb2 : Below w.heap.size w w1 := binto (by go_grown) (by go_size) hb1
            go_wp2
            all_goals
              go_ret
              have e : rangesFault l = 3 := if_neg HOK1.out
              rw [e]
              refine ⟨rfl, hb2⟩
      · have hg2 : goodR ⟨(getR l k).Lo, (getR l k).Hi⟩ = false := by simpa using hg
        rw [hg2] at hG
        have HG := Lib.hid hG
        have HOK1 : Hid (¬ rangesOk l) := by
          show ¬ rangesOk l
          intro hall
          have := hall k hkk
          unfold okAt at this
          rw [Bool.and_eq_true] at this
          exact hg this.1
        clear hG hg hg2
        generalize (getR l k).Lo = x at *
        generalize (getR l k).Hi = y at *
        go_wp2
        have Q0 : Hid (∀ W, Since (wr.alloc (.cells #[.int .i64 x, .int .i64 y] 79)) W → ∀ o, W.cell? ⟨wr.heap.size, o, none⟩ = (wr.alloc (.cells #[.int .i64 x, .int .i64 y] 79)).cell? ⟨wr.heap.size, o, none⟩) := fun W h => h.cell _ (by go_size)
        (refine wp_region_below (by kernel_rfl) (by kernel_rfl) ?_; (repeat (first | (go_big_quiet_skip) | (go_big_quiet_want; first | (go_big_quiet_op; go_big_quiet_on) | (go_simp; go_big_quiet_on) | (go_simp; apply Exists.intro; refine ⟨fun W hW => ?_, ?_⟩; (focus (have Q0_ := Q0.out W hW; first | (with_reducible exact rfl) | (go_simp; done) | (go_simp; with_reducible exact rfl) | (go_simp; (go_at_call 58; refine (HG.out _).mono ?_; rintro e w1 ⟨rfl, hb⟩; exact ⟨rfl, hW.into hb⟩)) | (go_at_call 58; refine (HG.out _).mono ?_; rintro e w1 ⟨rfl, hb⟩; exact ⟨rfl, hW.into hb⟩))); go_big_quiet_on)))); refine wpQuiet_nil ?_; intro w1 hb1)
        have hb2 : Below w.heap.size w w1 := binto (by go_grown) (by go_size) hb1
        go_wp2
        all_goals
          go_ret
          have e : rangesFault l = 3 := if_neg HOK1.out
          rw [e]
          refine ⟨rfl, hb2⟩
    · have hkl : k = l.length := by omega
      have hall : rangesFault l = 0 := if_pos (fun i hi => HOK.out i (by omega))
      go_wp2
      all_goals
        go_ret
        rw [hall]
        refine ⟨rfl, hb⟩
end Go.Proofs.Ytmfpfpllipogiaa
