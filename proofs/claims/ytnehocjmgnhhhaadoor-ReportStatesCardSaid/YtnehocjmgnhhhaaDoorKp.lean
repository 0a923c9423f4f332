import Derived.Test.YtnehocjmgnhhhaaDoorKo
/- Arguments that are structs or arrays by value, opened. -/
namespace Go.Proofs.YtnehocjmgnhhhaaDoor
open Go.RowKit Go.ChangeShapes Go.WideShapes Go.Deep
set_option linter.unusedVariables false
namespace K
section
variable {H : Type} {enc : TypeId × Value → H} {P : Program} {w : World} {base : Nat} {spare : Nat → Bool} {held : Bool}
theorem okWide_agg {w : World} {r : Reach} {base : Nat} {t : TypeId} {v : Value} (ht : (match P.underlying t with | some (.struct _) | some (.array _ _) => true | _ => false) = true) (h : Value.okWide P w r base t v) : ∃ cs, v = .agg cs := by
  unfold Value.okWide at h
  split at h
  · obtain ⟨cs, h, _⟩ := h; exact ⟨cs, h⟩
  · obtain ⟨cs, h, _⟩ := h; exact ⟨cs, h⟩
  · rename_i h1 h2
    split at ht
    · rename_i fs hf; exact absurd hf (h1 fs)
    · rename_i n e hf; exact absurd hf (h2 n e)
    · cases ht
theorem agg_of_trod {α : Type} (c : α → List Value) (good : α → Prop) {t : TypeId} {v : Value} {D : DataW H} {p : List MemPlace} (hv : ∃ cs, v = .agg cs)
    (hdec : ∀ (cs : List Value) n x, DataW.trod enc P w base spare held n t cs = some x → ∃ y, cs = c y ∧ good y) (h : DataW.Trod enc P w base spare held t v D p) : ∃ y, v = .agg (c y).toArray ∧ good y := by
  obtain ⟨cs, rfl⟩ := hv
  obtain ⟨fuel, hf⟩ := h
  obtain ⟨y, hy, hg⟩ := hdec _ _ _ hf
  refine ⟨y, ?_, hg⟩
  have : cs.toList = c y := hy
  rw [← this]
end
end K
end Go.Proofs.YtnehocjmgnhhhaaDoor
