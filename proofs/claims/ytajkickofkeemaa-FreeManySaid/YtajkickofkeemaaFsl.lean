/- slices and cmp over keys and pairs: Compare, BinarySearchFunc, Equal, Clone. -/
import Derived.Test.YtajkickofkeemaaFlist
import Derived.Test.YtajkickofkeemaaKw
namespace Go.Proofs.Ytajkickofkeemaa
open Go.RowKit
set_option linter.unusedVariables false
attribute [local irreducible] K.KW K.RW K.DW K.OW K.QR K.KC
structure PairM where
 key : Int
 val : Int
 deriving DecidableEq
def p0 : PairM := ⟨0, 0⟩
end Go.Proofs.Ytajkickofkeemaa
