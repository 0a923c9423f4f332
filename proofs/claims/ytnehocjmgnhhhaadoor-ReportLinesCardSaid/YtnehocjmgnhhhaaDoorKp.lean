import Derived.Test.YtnehocjmgnhhhaaDoorKo
/- Arguments that are structs or arrays by value, opened. -/
namespace Go.Proofs.YtnehocjmgnhhhaaDoor
open Go.RowKit Go.ChangeShapes Go.WideShapes Go.Deep
set_option linter.unusedVariables false
namespace K
section
variable {H : Type} {enc : TypeId × Value → H} {P : Program} {w : World} {base : Nat} {spare : Nat → Bool} {held : Bool}
/-- a part of a struct or an array that is a bool -/
theorem part_bool {t : TypeId} {cs : List Value} {off n i : Nat} {ys : List (DataW H × List MemPlace)} (ht : P.underlying t = some .bool) (hC : P.cellsOf t = 1) (h : DataW.trod enc P w base spare held n t ((cs.drop off).take (P.cellsOf t)) = ys[i]?) (hi : i < ys.length) :
    ∃ y, cs[off]? = some (.bool y) ∧ True := by
  rw [List.getElem?_eq_getElem hi, hC] at h
  obtain ⟨y, h1, _⟩ := DataW.trod_bool ht h
  refine ⟨y, ?_, trivial⟩
  have := congrArg (fun l => l[0]?) h1
  simpa [List.getElem?_take, List.getElem?_drop] using this
/-- a part of a part -/
theorem part_sub {cs : List Value} {off size j : Nat} {v : Value} (h : ((cs.drop off).take size)[j]? = some v) : cs[off + j]? = some v := by
  rw [List.getElem?_take] at h
  split at h
  · rwa [List.getElem?_drop] at h
  · cases h
end
end K
end Go.Proofs.YtnehocjmgnhhhaaDoor
