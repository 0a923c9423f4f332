/- Layer 8: what the statements call. -/
import Derived.Test.YtgeihjiichdpbaaFmo
namespace Go.Proofs.Ytgeihjiichdpbaa
open Go.RowKit
set_option linter.unusedVariables false
attribute [local irreducible] K.KW K.RW K.DW K.OW K.QR K.KC

theorem runT_next1 {S S' : StM} {ls : List OpM} {j : Nat} (h : (runT S (ls.take j)).1 = S') (hj : j < ls.length) : (runT S (ls.take (j + 1))).1 = (applyT ⟨S'.q, S'.s, S'.m⟩ (ls.getD j op0).kind (ls.getD j op0).key (ls.getD j op0).val).1 := by
  rw [tk_snoc (d := op0) hj, runT_snoc, h]; rfl
theorem runT_get1 {S S' : StM} {ls : List OpM} {j : Nat} (h : (runT S (ls.take j)).1 = S') (hj : j < ls.length) : (runT S ls).2.getD j (0, 0) = (applyT ⟨S'.q, S'.s, S'.m⟩ (ls.getD j op0).kind (ls.getD j op0).key (ls.getD j op0).val).2 := by
  rw [runT_get hj, h]; rfl
theorem risingB_of {ks : List Int} (h : rising ks) : risingB ks = true := (risingB_t h).symm
theorem right_of {s : List Int} {m : List PairM} (h1 : rising s) (h2 : rising (keysP m)) : (risingB s && risingB (keysP m)) = true := by rw [risingB_of h1, risingB_of h2]; rfl
theorem of_right {s : List Int} {m : List PairM} (h : (risingB s && risingB (keysP m)) = true) : rising s ∧ rising (keysP m) := by
  rw [Bool.and_eq_true] at h
  exact ⟨rising_lit h.1, rising_lit h.2⟩

end Go.Proofs.Ytgeihjiichdpbaa
