/-
  The pen of fields and the reference's prefixText at the numbers with which they are called. No condition.
-/
import Derived.Test.YthpophgcmgdpjaaEnP
set_option linter.unusedVariables false
set_option linter.unusedSimpArgs false
set_option linter.unusedVariables false
namespace Go.Proofs.Ythpophgcmgdpjaa
set_option maxRecDepth 100000
attribute [local irreducible] Run RunL QStep GStep Fn Less PL FnM

theorem pn0 (n : Nat) (p : List UInt8) (hn : n ≤ 4611686018427387903) (hp : p.length ≤ 1000000) : FnM Try.prog 72 [.ptr 0 0 0 0, .lit (.int .u8 0), .lit (.int .i64 8), .lit (.int .i64 n)] [(0, some (.box 123 [.own 1])), (1, some (.row 5 1 (p.map encB)))] 2 (.tup []) [(0, some (.box 123 [.own 2])), (2, some (.row 5 1 ((p ++ preE 0 255 n).map encB)))] 3 :=
  penNum_fnm 0 8 n p (by decide) hn (by decide) (by decide) hp
theorem pn192 (n : Nat) (p : List UInt8) (hn : n ≤ 4611686018427387903) (hp : p.length ≤ 1000000) : FnM Try.prog 72 [.ptr 0 0 0 0, .lit (.int .u8 192), .lit (.int .i64 6), .lit (.int .i64 n)] [(0, some (.box 123 [.own 1])), (1, some (.row 5 1 (p.map encB)))] 2 (.tup []) [(0, some (.box 123 [.own 2])), (2, some (.row 5 1 ((p ++ preE 192 63 n).map encB)))] 3 :=
  penNum_fnm 192 6 n p (by decide) hn (by decide) (by decide) hp
theorem pn128 (n : Nat) (p : List UInt8) (hn : n ≤ 4611686018427387903) (hp : p.length ≤ 1000000) : FnM Try.prog 72 [.ptr 0 0 0 0, .lit (.int .u8 128), .lit (.int .i64 6), .lit (.int .i64 n)] [(0, some (.box 123 [.own 1])), (1, some (.row 5 1 (p.map encB)))] 2 (.tup []) [(0, some (.box 123 [.own 2])), (2, some (.row 5 1 ((p ++ preE 128 63 n).map encB)))] 3 :=
  penNum_fnm 128 6 n p (by decide) hn (by decide) (by decide) hp
theorem pn64 (n : Nat) (p : List UInt8) (hn : n ≤ 4611686018427387903) (hp : p.length ≤ 1000000) : FnM Try.prog 72 [.ptr 0 0 0 0, .lit (.int .u8 64), .lit (.int .i64 4), .lit (.int .i64 n)] [(0, some (.box 123 [.own 1])), (1, some (.row 5 1 (p.map encB)))] 2 (.tup []) [(0, some (.box 123 [.own 2])), (2, some (.row 5 1 ((p ++ preE 64 15 n).map encB)))] 3 :=
  penNum_fnm 64 4 n p (by decide) hn (by decide) (by decide) hp
theorem pt64 (s p : List UInt8) (hn : s.length ≤ 120) (hp : p.length ≤ 1000000) : FnM Try.prog 71 [.ptr 0 0 0 0, .lit (.int .u8 64), .lit (.int .i64 5), .lit (.string (strB s))] [(0, some (.box 123 [.own 1])), (1, some (.row 5 1 (p.map encB)))] 2 (.tup []) [(0, some (.box 123 [.own 2])), (2, some (.row 5 1 ((p ++ txtE 64 31 s).map encB)))] 3 :=
  penText_fnm 64 5 s p (by decide) hn (by decide) (by decide) hp
theorem pt0 (s p : List UInt8) (hn : s.length ≤ 120) (hp : p.length ≤ 1000000) : FnM Try.prog 71 [.ptr 0 0 0 0, .lit (.int .u8 0), .lit (.int .i64 7), .lit (.string (strB s))] [(0, some (.box 123 [.own 1])), (1, some (.row 5 1 (p.map encB)))] 2 (.tup []) [(0, some (.box 123 [.own 2])), (2, some (.row 5 1 ((p ++ txtE 0 127 s).map encB)))] 3 :=
  penText_fnm 0 7 s p (by decide) hn (by decide) (by decide) hp
theorem pt32 (s p : List UInt8) (hn : s.length ≤ 120) (hp : p.length ≤ 1000000) : FnM Try.prog 71 [.ptr 0 0 0 0, .lit (.int .u8 32), .lit (.int .i64 3), .lit (.string (strB s))] [(0, some (.box 123 [.own 1])), (1, some (.row 5 1 (p.map encB)))] 2 (.tup []) [(0, some (.box 123 [.own 2])), (2, some (.row 5 1 ((p ++ txtE 32 7 s).map encB)))] 3 :=
  penText_fnm 32 3 s p (by decide) hn (by decide) (by decide) hp
theorem px64_31 (n : Nat) (hn : n ≤ 4611686018427387903) : Fn Try.prog 78 [.lit (.int .i64 64), .lit (.int .i64 31), .lit (.int .i64 n)] (.lit (.string (strB (preE 64 31 n)))) := prefixT_fn 64 31 n (by decide) hn
theorem px0_127 (n : Nat) (hn : n ≤ 4611686018427387903) : Fn Try.prog 78 [.lit (.int .i64 0), .lit (.int .i64 127), .lit (.int .i64 n)] (.lit (.string (strB (preE 0 127 n)))) := prefixT_fn 0 127 n (by decide) hn
theorem px0_255 (n : Nat) (hn : n ≤ 4611686018427387903) : Fn Try.prog 78 [.lit (.int .i64 0), .lit (.int .i64 255), .lit (.int .i64 n)] (.lit (.string (strB (preE 0 255 n)))) := prefixT_fn 0 255 n (by decide) hn
theorem px192_63 (n : Nat) (hn : n ≤ 4611686018427387903) : Fn Try.prog 78 [.lit (.int .i64 192), .lit (.int .i64 63), .lit (.int .i64 n)] (.lit (.string (strB (preE 192 63 n)))) := prefixT_fn 192 63 n (by decide) hn
theorem px128_63 (n : Nat) (hn : n ≤ 4611686018427387903) : Fn Try.prog 78 [.lit (.int .i64 128), .lit (.int .i64 63), .lit (.int .i64 n)] (.lit (.string (strB (preE 128 63 n)))) := prefixT_fn 128 63 n (by decide) hn
theorem px64_15 (n : Nat) (hn : n ≤ 4611686018427387903) : Fn Try.prog 78 [.lit (.int .i64 64), .lit (.int .i64 15), .lit (.int .i64 n)] (.lit (.string (strB (preE 64 15 n)))) := prefixT_fn 64 15 n (by decide) hn
theorem px32_7 (n : Nat) (hn : n ≤ 4611686018427387903) : Fn Try.prog 78 [.lit (.int .i64 32), .lit (.int .i64 7), .lit (.int .i64 n)] (.lit (.string (strB (preE 32 7 n)))) := prefixT_fn 32 7 n (by decide) hn
end Go.Proofs.Ythpophgcmgdpjaa
