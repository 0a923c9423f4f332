import Derived.Test.YtnehocjmgnhhhaaDoorFsr3
/- Reports: what is read of a line, by the code and by the document: the plain law. -/
namespace Go.Proofs.YtnehocjmgnhhhaaDoor
open Go.RowKit
set_option linter.unusedVariables false
attribute [local irreducible] K.KW K.RW K.DW K.OW K.QR K.KC
theorem u32R_of {x : Int} (h : 0 ≤ x) (h2 : x ≤ 4294967295) : u32R x = x := IntWalk.u32_in x ⟨h, h2⟩
end Go.Proofs.YtnehocjmgnhhhaaDoor
