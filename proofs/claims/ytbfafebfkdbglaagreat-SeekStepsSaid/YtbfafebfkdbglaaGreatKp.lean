/- Arguments that are structs or arrays by value, opened. -/
import Derived.Test.YtbfafebfkdbglaaGreatKo
namespace Go.Proofs.YtbfafebfkdbglaaGreat
open Go.RowKit Go.ChangeShapes Go.WideShapes Go.Deep
set_option linter.unusedVariables false
namespace K
section
variable {H : Type} {enc : TypeId × Value → H} {P : Program} {w : World} {base : Nat} {spare : Nat → Bool} {held : Bool}
theorem okWide_agg {w : World} {r : Reach} {base : Nat} {t : TypeId} {v : Value} (ht : (match P.underlying t with | some (.struct _) | some (.array _ _) => true | _ => false) = true) (h : Value.okWide P w r base t v) : ∃ cs, v = .agg cs := by
  unfold Value.okWide at h
  split at h
  · obtain ⟨cs, h, _⟩ := h; exact ⟨cs, h⟩
  · obtain ⟨cs, h, _⟩ := h; exact ⟨cs, h⟩
  · rename_i h1 h2
    split at ht
    · rename_i fs hf; exact absurd hf (h1 fs)
    · rename_i n e hf; exact absurd hf (h2 n e)
    · cases ht
theorem agg_of_trod {α : Type} (c : α → List Value) (good : α → Prop) {t : TypeId} {v : Value} {D : DataW H} {p : List MemPlace} (hv : ∃ cs, v = .agg cs)
    (hdec : ∀ (cs : List Value) n x, DataW.trod enc P w base spare held n t cs = some x → ∃ y, cs = c y ∧ good y) (h : DataW.Trod enc P w base spare held t v D p) : ∃ y, v = .agg (c y).toArray ∧ good y := by
  obtain ⟨cs, rfl⟩ := hv
  obtain ⟨fuel, hf⟩ := h
  obtain ⟨y, hy, hg⟩ := hdec _ _ _ hf
  refine ⟨y, ?_, hg⟩
  have : cs.toList = c y := hy
  rw [← this]
/-- a part of a struct or an array that is a bool -/
theorem part_bool {t : TypeId} {cs : List Value} {off n i : Nat} {ys : List (DataW H × List MemPlace)} (ht : P.underlying t = some .bool) (hC : P.cellsOf t = 1) (h : DataW.trod enc P w base spare held n t ((cs.drop off).take (P.cellsOf t)) = ys[i]?) (hi : i < ys.length) :
    ∃ y, cs[off]? = some (.bool y) ∧ True := by
  rw [List.getElem?_eq_getElem hi, hC] at h
  obtain ⟨y, h1, _⟩ := DataW.trod_bool ht h
  refine ⟨y, ?_, trivial⟩
  have := congrArg (fun l => l[0]?) h1
  simpa [List.getElem?_take, List.getElem?_drop] using this
/-- a part of a part -/
theorem part_sub {cs : List Value} {off size j : Nat} {v : Value} (h : ((cs.drop off).take size)[j]? = some v) : cs[off + j]? = some v := by
  rw [List.getElem?_take] at h
  split at h
  · rwa [List.getElem?_drop] at h
  · cases h
end
end K
end Go.Proofs.YtbfafebfkdbglaaGreat
