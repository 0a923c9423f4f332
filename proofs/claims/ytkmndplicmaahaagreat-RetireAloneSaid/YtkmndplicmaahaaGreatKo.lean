/- A slice that came in as an argument, opened to a row of values of one element kind. -/
import Derived.Test.YtkmndplicmaahaaGreatKm
import Derived.Deep.Slices
import Derived.Deep.Fields
import Derived.ChangeSame
import Derived.OpenShut
namespace Go.Proofs.YtkmndplicmaahaaGreat
open Go.RowKit Go.ChangeShapes Go.WideShapes Go.Deep
set_option linter.unusedVariables false
namespace K
section
variable {H : Type} {enc : TypeId × Value → H} {P : Program} {w : World} {base : Nat} {spare : Nat → Bool} {held : Bool}
/-- a part of a struct or an array that is an integer -/
theorem part_int {k : IntKind} {t : TypeId} {cs : List Value} {off n i : Nat} {ys : List (DataW H × List MemPlace)} (ht : P.underlying t = some (.int k)) (hC : P.cellsOf t = 1) (h : DataW.trod enc P w base spare held n t ((cs.drop off).take (P.cellsOf t)) = ys[i]?) (hi : i < ys.length) :
    ∃ y, cs[off]? = some (.int k y) ∧ (Lit.int k y).wf = true := by
  rw [List.getElem?_eq_getElem hi, hC] at h
  obtain ⟨y, h1, _, h2⟩ := DataW.trod_int ht h
  refine ⟨y, ?_, h2⟩
  have := congrArg (fun l => l[0]?) h1
  simpa [List.getElem?_take, List.getElem?_drop] using this
end
end K
end Go.Proofs.YtkmndplicmaahaaGreat
