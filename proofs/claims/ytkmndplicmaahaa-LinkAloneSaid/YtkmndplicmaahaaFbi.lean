/- Bits: slots and versions of words. -/
import Derived.Test.YtkmndplicmaahaaFgr2
import Derived.Test.YtkmndplicmaahaaKn
namespace Go.Proofs.Ytkmndplicmaahaa
open Go.RowKit
set_option linter.unusedVariables false
attribute [local irreducible] K.KW K.RW K.DW K.OW K.QR K.KC
def isW (w : Int) : Prop := 0 ≤ w ∧ w ≤ 18446744073709551615
theorem wrap64 {x : Int} (h : isW x) : IntKind.u64.wrap x = x := by
 have : IntKind.u64.wrap x = x % 18446744073709551616 := by simp [IntKind.wrap, IntKind.bits, IntKind.signed]
 rw [this]; unfold isW at h; omega
theorem bv64 (n : Nat) (h : n ≤ 18446744073709551615) : (BitVec.ofInt 64 (n : Int)).toNat = n := by rw [BitVec.toNat_ofInt]; omega
end Go.Proofs.Ytkmndplicmaahaa
