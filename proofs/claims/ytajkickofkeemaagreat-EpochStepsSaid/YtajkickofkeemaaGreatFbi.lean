/- Bits: slots and versions of words. -/
import Derived.Test.YtajkickofkeemaaGreatFgr2
import Derived.Test.YtajkickofkeemaaGreatKn
namespace Go.Proofs.YtajkickofkeemaaGreat
open Go.RowKit
set_option linter.unusedVariables false
attribute [local irreducible] K.KW K.RW K.DW K.OW K.QR K.KC
def isW (w : Int) : Prop := 0 ≤ w ∧ w ≤ 18446744073709551615
theorem wrapU (x : Int) : IntKind.u64.wrap x = x % 18446744073709551616 := by simp [IntKind.wrap, IntKind.bits, IntKind.signed]
end Go.Proofs.YtajkickofkeemaaGreat
