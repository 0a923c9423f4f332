import Derived.Test.YtnehocjmgnhhhaaDoorKo
/- Arguments that are structs or arrays by value, opened. -/
namespace Go.Proofs.YtnehocjmgnhhhaaDoor
open Go.RowKit Go.ChangeShapes Go.WideShapes Go.Deep
set_option linter.unusedVariables false
namespace K
section
variable {H : Type} {enc : TypeId × Value → H} {P : Program} {w : World} {base : Nat} {spare : Nat → Bool} {held : Bool}
/-- a part of a part -/
theorem part_sub {cs : List Value} {off size j : Nat} {v : Value} (h : ((cs.drop off).take size)[j]? = some v) : cs[off + j]? = some v := by
  rw [List.getElem?_take] at h
  split at h
  · rwa [List.getElem?_drop] at h
  · cases h
end
end K
end Go.Proofs.YtnehocjmgnhhhaaDoor
