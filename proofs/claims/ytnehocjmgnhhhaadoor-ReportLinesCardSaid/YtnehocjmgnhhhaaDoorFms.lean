import Derived.Test.YtnehocjmgnhhhaaDoorFsl
/- Which states are alike; which may be. -/
namespace Go.Proofs.YtnehocjmgnhhhaaDoor
open Go.RowKit
set_option linter.unusedVariables false
attribute [local irreducible] K.KW K.RW K.DW K.OW K.QR K.KC
theorem and_t {a b : Bool} (h : true = a) (h2 : true = b) : true = (a && b) := by rw [← h, ← h2]; rfl
end Go.Proofs.YtnehocjmgnhhhaaDoor
