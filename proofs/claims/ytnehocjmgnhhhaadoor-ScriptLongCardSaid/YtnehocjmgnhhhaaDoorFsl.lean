import Derived.Test.YtnehocjmgnhhhaaDoorFlist
import Derived.Test.YtnehocjmgnhhhaaDoorKw
/- slices and cmp over keys and pairs: Compare, BinarySearchFunc, Equal, Clone. -/
namespace Go.Proofs.YtnehocjmgnhhhaaDoor
open Go.RowKit
set_option linter.unusedVariables false
attribute [local irreducible] K.KW K.RW K.DW K.OW K.QR K.KC
structure PairM where
  key : Int
  val : Int
  deriving DecidableEq
def p0 : PairM := ⟨0, 0⟩
def isU32 (x : Int) : Prop := 0 ≤ x ∧ x ≤ 4294967295
end Go.Proofs.YtnehocjmgnhhhaaDoor
