import Derived.Test.YtnehocjmgnhhhaaDoorFsu
import Derived.Test.YtnehocjmgnhhhaaDoorFsr
import Derived.Test.YtnehocjmgnhhhaaDoorFrp5
/- Reports: the text of a state: the plain law. -/
namespace Go.Proofs.YtnehocjmgnhhhaaDoor
open Go.RowKit
set_option linter.unusedVariables false
attribute [local irreducible] K.KW K.RW K.DW K.OW K.QR K.KC
theorem rs_inj {S T : StM} (hf : S.fits) (h : readSt (stR S) = some T) : T = S := by rw [readSt_stR hf] at h; cases h; rfl
theorem same_t2 {S T : StM} (h : T = S) : decide (T.q = S.q ∧ T.s = S.s ∧ T.m = S.m) = true := by subst h; simp
end Go.Proofs.YtnehocjmgnhhhaaDoor
