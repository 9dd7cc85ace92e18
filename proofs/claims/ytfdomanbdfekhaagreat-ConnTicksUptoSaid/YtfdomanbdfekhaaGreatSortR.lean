/-
  sort.Slice over ranges, by their lowest numbers: what it leaves.
-/
import Derived.Test.YtfdomanbdfekhaaGreatSortLay
import Derived.Test.YtfdomanbdfekhaaGreatRgsAdd
import Derived.Deep.QuietTactic
import Derived.WalkKit
set_option linter.unusedVariables false
set_option linter.unusedSimpArgs false
set_option linter.unusedVariables false
namespace Go.Proofs.YtfdomanbdfekhaaGreat
open Go.Shelf Go.RowKit Go.Lib Go.Sort
set_option maxRecDepth 100000

def eR (r : DRange) : List Value := [.int .i64 r.Lo, .int .i64 r.Hi]
def ltR (a b : DRange) : Bool := decide (a.Lo < b.Lo)
theorem swo_ltR : SWO ltR where
  irrefl := fun x => by simp [ltR]
  trans := fun x y z h1 h2 => by simp [ltR] at *; omega
  ntrans := fun x y z h1 h2 => by simp [ltR] at *; omega
noncomputable def srT : TypeInfo := (Tryz.prog.info? 23).get (by kernel_rfl)
noncomputable def srE : TypeInfo := (Tryz.prog.info? 99).get (by kernel_rfl)
theorem srK (n : Nat) (h2 : 2 ≤ n) : Lib.swapperK n srE 25 = 9 := by
  have a : srE.hasPointers = false := by kernel_rfl
  have b : srE.bytes = 16 := by kernel_rfl
  have c : (n == 0) = false := by simp; omega
  have d : (n == 1) = false := by simp; omega
  simp [Lib.swapperK, a, b, c, d]
set_option maxHeartbeats 2000000 in
/-- the closure -/
theorem lessR (blk off c Bs size : Nat) (W : World) (G : Nat → Int) (hs : W.cell? ⟨Bs, 0, none⟩ = some (.slice (some ⟨blk, off, none⟩) size c))
    (hc : ∀ t, t < size → W.cell? ⟨blk, off + t * 2, none⟩ = some (.int .i64 (G t))) (i j : Nat) (hi : i < size) (hj : j < size) (_hsz : size < 4611686018427387904) :
    Calls Tryz.prog 81 #[.int .i64 i, .int .i64 j, .pointer (some ⟨Bs, 0, none⟩)] W fun e w' => e = .returned (.bool (decide (G i < G j))) ∧ ∃ q, w' = W.drewN q := by
  have ci := hc i hi
  have cj := hc j hj
  go_enter Tryz.func81, Tryz.ntmps81
  go_wp2
  go_quiet (fail)
  go_wp2
  go_ret
  exact ⟨rfl, nq, rfl⟩
theorem sortR2 (blk off c Bs : Nat) (d : Array DRange) (h2 : 2 ≤ d.size) (hsz : d.size < 4611686018427387904) (w : World) (hH : HoldsK eR 2 w blk off d) (hblk : blk < w.heap.size)
    (hBs : w.cell? ⟨Bs, 0, none⟩ = some (.slice (some ⟨blk, off, none⟩) d.size c)) (hB1 : Bs < w.heap.size) (hB2 : Bs ≠ blk) :
    Calls Tryz.prog 80 #[.iface 23 (.slice (some ⟨blk, off, none⟩) d.size c), .func (.func 81) #[] #[.pointer (some ⟨Bs, 0, none⟩)]] w fun e w' =>
      e = .returned (.tuple #[]) ∧ ∃ d' n os, PermIn 0 d.size d d' ∧ SortedIn ltR 0 d.size d' ∧ w' = grow (putRowK eR 2 (Sort.ahead w n) blk off d') os := by
  have hless : LessReadsK Tryz.prog 81 #[.pointer (some ⟨Bs, 0, none⟩)] eR 2 ltR blk off d.size w := by
    intro m os dk hs i j hi hj
    have e : sortWorldK eR 2 w blk off m dk os = putRowK eR 2 (grow (Sort.ahead w m) os) blk off dk := by
      unfold sortWorldK; rw [putRowK_grow _ _ (Sort.ahead w m) _ blk off _ hblk]
    have hHg : HoldsK eR 2 (grow (Sort.ahead w m) os) blk off d := holdsK_grow _ _ _ _ blk off d hblk (holdsK_ahead _ _ _ _ _ _ _ hH)
    refine lessR blk off c Bs d.size _ (fun t => dk[t]!.Lo) ?_ (fun t ht => ?_) i j hi hj (by omega)
    · rw [e, cell?_putRowK_other _ _ _ blk off dk _ (by exact hB2), cell?_grow _ _ _ (by exact hB1)]; exact hBs
    · rw [e]; exact ((holdsK_putRowK _ _ _ blk off d dk hHg hs).cell (i := t) (c := 0) (by omega) (by omega)).1
  exact Any.sort_Slice_cells_sorted sl6 23 99 srT srE (by kernel_rfl) (by kernel_rfl) (by kernel_rfl) (by kernel_rfl) 25 (fun _ => by kernel_rfl) eR 2 (fun _ => rfl) (by kernel_rfl) (fun _ => by kernel_rfl)
    (fun x v hv => by simp [eR] at hv; rcases hv with rfl | rfl <;> rfl) ltR swo_ltR 81 _
    (enters_of Tryz.func81 (by kernel_rfl) rfl) blk off c d h2 hsz 95 (by rw [srK _ h2]; kernel_rfl) false
    (fun args W => run_callFunc_extern Tryz.func95 (by kernel_rfl) (by kernel_rfl) (by kernel_rfl) (e := Extern.ReflectliteSwapper.swap false) (by kernel_rfl) args W) w hless hH hblk
end Go.Proofs.YtfdomanbdfekhaaGreat
