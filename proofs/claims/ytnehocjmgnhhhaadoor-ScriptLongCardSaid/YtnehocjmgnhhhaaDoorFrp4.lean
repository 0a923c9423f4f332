import Derived.Test.YtnehocjmgnhhhaaDoorFrp3
/- Reports: a call read out of its line. -/
namespace Go.Proofs.YtnehocjmgnhhhaaDoor
open Go.RowKit
set_option linter.unusedVariables false
attribute [local irreducible] K.KW K.RW K.DW K.OW K.QR K.KC
/-- a time as it is read: '-' is none -/
def whenR (x : List UInt8) : Int := if x = [45] then -1 else numR x 1099511627776
end Go.Proofs.YtnehocjmgnhhhaaDoor
