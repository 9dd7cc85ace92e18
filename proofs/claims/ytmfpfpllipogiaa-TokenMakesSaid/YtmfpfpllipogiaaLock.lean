/-
  The words of lock and of its reference: what Mix, Key and the reference's Mixed, KeyOf answer, each once. No condition.
-/
import Derived.Test.YtmfpfpllipogiaaBase
import Derived.Handy
import Derived.Lib.Hide
set_option linter.unusedSimpArgs false
set_option linter.unusedVariables false
namespace Go.Proofs.Ytmfpfpllipogiaa
open Go.RowKit

/-- P6.1 -/
def mix1 (x : Int) : Int := IntKind.u64.wrap (x + 11400714819323198485)
def mixS (x m d : Int) : Int := IntKind.u64.wrap (bits .xor .u64 x (x / d) * m)
def mixE (x : Int) : Int := bits .xor .u64 x (x / 2147483648)
def mix (x : Int) : Int := mixE (mixS (mixS (mix1 x) 13787848793156543929 1073741824) 10723151780598845931 134217728)
/-- P6.2 -/
def keyI (s n : Int) : Int := mix (bits .xor .u64 (mix s) (IntKind.u64.wrap n))

set_option maxHeartbeats 400000 in
theorem Mix_calls (x : Int) (w : World) :
    Calls Try.prog 15 #[.int .u64 x] w fun e w' => e = .returned (.int .u64 (mix x)) ∧ w = w' := by
  go_enter Try.func15, Try.ntmps15
  go_wp2
  go_ret
  exact ⟨rfl, rfl⟩

set_option maxHeartbeats 400000 in
theorem Key_calls (s n : Int) (w : World) :
    Calls Try.prog 16 #[.int .u64 s, .int .i64 n] w fun e w' => e = .returned (.int .u64 (keyI s n)) ∧ w = w' := by
  go_enter Try.func16, Try.ntmps16
  go_wp2_with (go_at_call 15; refine (Mix_calls _ _).mono ?_; rintro e w' ⟨rfl, rfl⟩)
  go_ret
  exact ⟨rfl, rfl⟩

set_option maxHeartbeats 1000000 in
theorem Mixed_calls (x : Int) (w : World) :
    Calls Try.prog 17 #[.int .u64 x] w fun e w' => e = .returned (.int .u64 (mix x)) ∧ Below w.heap.size w w' := by
  go_enter Try.func17, Try.ntmps17
  go_wp2
  go_rounds 4
  go_ret
  exact ⟨rfl, (Below.refl _ _).alloc (Nat.le_refl _) _⟩

theorem xor_comm64 (a b : Int) : bits .xor .u64 a b = bits .xor .u64 b a := by
  show IntKind.u64.wrap ((BitVec.ofInt 64 a ^^^ BitVec.ofInt 64 b).toNat : Int) = IntKind.u64.wrap ((BitVec.ofInt 64 b ^^^ BitVec.ofInt 64 a).toNat : Int)
  rw [BitVec.xor_comm]

set_option maxHeartbeats 400000 in
theorem KeyOf_calls (s n : Int) (w : World) :
    Calls Try.prog 18 #[.int .u64 s, .int .i64 n] w fun e w' => e = .returned (.int .u64 (keyI s n)) ∧ Below w.heap.size w w' := by
  have hk : Ending.returned (.int .u64 (mix (bits .xor .u64 (IntKind.u64.wrap n) (mix s)))) = Ending.returned (.int .u64 (keyI s n)) := by
    unfold keyI
    rw [xor_comm64]
  have HK := Lib.hid hk
  clear hk
  go_enter Try.func18, Try.ntmps18
  go_wp2_with (go_at_call 17; refine (Mixed_calls _ _).mono ?_; rintro e w' ⟨rfl, hb⟩)
  go_ret
  exact ⟨HK.out, Below.trans ‹Below w.heap.size w _› (hb.mono (Below.size ‹Below w.heap.size w _›))⟩
end Go.Proofs.Ytmfpfpllipogiaa
