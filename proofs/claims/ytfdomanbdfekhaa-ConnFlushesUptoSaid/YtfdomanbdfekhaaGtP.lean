/-
  gate.Packet and the reference's PacketOf: what each answers. No condition.
-/
import Derived.Test.YtfdomanbdfekhaaGA
import Derived.Test.YtfdomanbdfekhaaPckN
import Derived.Test.YtfdomanbdfekhaaHeadE
import Derived.Test.YtfdomanbdfekhaaGC
import Derived.Test.YtfdomanbdfekhaaLock3
import Derived.Test.YtfdomanbdfekhaaFrEn
import Derived.Test.YtfdomanbdfekhaaFrTx
import Derived.Test.YtfdomanbdfekhaaFrF
set_option linter.unusedVariables false
set_option linter.unusedSimpArgs false
set_option linter.unusedVariables false
namespace Go.Proofs.Ytfdomanbdfekhaa
set_option maxRecDepth 100000
attribute [local irreducible] Run RunL QStep GStep Fn Less PL FnM

/-- the first fault of some frames -/
def frsFlt : List DFrame → Int
  | [] => 0
  | f :: l => if frFlt f ≠ 0 then frFlt f else frsFlt l
def frsB (l : List DFrame) : List UInt8 := l.flatMap frB
theorem frsB_snoc (l : List DFrame) (f : DFrame) : frsB (l ++ [f]) = frsB l ++ frB f := by unfold frsB; rw [List.flatMap_append]; simp
theorem frsB_len {l : List DFrame} (h : ∀ f ∈ l, frFlt f = 0) : (frsB l).length ≤ 1000 * l.length := by
  induction l with
  | nil => exact Nat.zero_le _
  | cons f l ih =>
    have h1 := frB_len (h f List.mem_cons_self)
    have h2 := ih (fun g hg => h g (List.mem_cons_of_mem _ hg))
    unfold frsB at *
    rw [List.flatMap_cons, List.length_append, List.length_cons]
    omega
/-- P19.2: the head then -/
def pkH (h : DHead) (c : List UInt8) : DHead := ⟨h.Kind, h.To, h.From, h.Token, ((numG 0 c : Nat) : Int), (c.length : Int)⟩
noncomputable def pktR (key : Int) (h : DHead) (n acked : Int) (l : List DFrame) : List UInt8 × Int :=
  if (cutR n acked).2 ≠ 0 then ([], (cutR n acked).2)
  else if hdFlt (pkH h (cutR n acked).1) ≠ 0 then ([], hdFlt (pkH h (cutR n acked).1))
  else if frsFlt l ≠ 0 then ([], frsFlt l)
  else if 400 < (hdB (pkH h (cutR n acked).1)).length + (frsB l).length + 8 then ([], 1)
  else (hdB (pkH h (cutR n acked).1) ++ sealB key n (hdB (pkH h (cutR n acked).1)) (frsB l), 0)
def encPk (r : List UInt8 × Int) : V := .tup [.ro (r.1.map encB), .lit (.int .i64 r.2)]
end Go.Proofs.Ytfdomanbdfekhaa
