import Derived.Test.YtbfafebfkdbglaaGreatFl9c
/- The statements of layer 4. -/
namespace Go.Proofs.YtbfafebfkdbglaaGreat
open Go.RowKit
set_option linter.unusedVariables false
attribute [local irreducible] K.KW K.RW K.DW K.OW K.QR K.KC
theorem foldl_back_seen : ∀ (l : List Int) (D : DevM), (l.foldl (fun D x => D.back x.toNat) D).seen = D.seen
 | [], _ => rfl
 | x :: l, D => foldl_back_seen l (D.back x.toNat)
theorem DevM.fence_seen (D : DevM) (t : Nat) : (D.fence t).seen = D.seen := foldl_back_seen _ _
theorem DevM.ok.mark {D : DevM} {n t k q : Nat} (h : D.ok n t) (hk : k < t) : (D.mark k q).ok n t := h.set (by rw [List.length_set]; exact h.getB hk)
theorem DevM.ok.fence {D : DevM} {n t k : Nat} (h : D.ok n t) (hk : k < t) : (D.fence k).ok n t := by
 have hB := h.getB hk
 rw [fence_eq]
 exact DevM.ok.set (backsTo_ok h _ (by omega)) (by rw [List.length_replicate]; exact hB)
theorem RowsG.one {α : Type} {p : K.Cs → Value → α → Prop} {g : K.Cs} {v : Value} {B : α} (h : p g v B) : RowsG p g [v] [B] := ⟨[g], by simp, h, trivial⟩
end Go.Proofs.YtbfafebfkdbglaaGreat
