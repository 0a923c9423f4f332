import Derived.Test.YtbfafebfkdbglaaGreatFlist
/- Contracts: parts of a list, words and bytes. -/
namespace Go.Proofs.YtbfafebfkdbglaaGreat
open Go.RowKit
set_option linter.unusedVariables false
attribute [local irreducible] K.KW K.RW K.DW K.OW K.QR K.KC
/-- a line's cells -/
def cLine (l : List Int) : List Value := [.int .u64 (l.getD 0 0), .int .u64 (l.getD 1 0), .int .u64 (l.getD 2 0), .int .u64 (l.getD 3 0), .int .u64 (l.getD 4 0), .int .u64 (l.getD 5 0), .int .u64 (l.getD 6 0), .int .u64 (l.getD 7 0)]
/-- a list as a line -/
def ln8 (l : List Int) : List Int := [l.getD 0 0, l.getD 1 0, l.getD 2 0, l.getD 3 0, l.getD 4 0, l.getD 5 0, l.getD 6 0, l.getD 7 0]
abbrev RLn (w : World) (a : Option Addr) (l : List (List Int)) : Prop := K.RowE w a l.length 8 (fun i => cLine (l.getD i []))
theorem parts_end {n k sz m : Nat} (h : m = n - k * sz) (hk : k * sz ≤ n) (hm : m < sz) : k = n / sz := by
 refine (Nat.div_eq_of_lt_le (by omega) ?_).symm
 rw [Nat.succ_mul]; omega
theorem parts_lt {n k sz m : Nat} (h : m = n - k * sz) (hk : k * sz ≤ n) (hs : 0 < sz) (hm : sz ≤ m) : k < n / sz :=
 (Nat.le_div_iff_mul_le hs).2 (by rw [Nat.succ_mul]; omega)
end Go.Proofs.YtbfafebfkdbglaaGreat
