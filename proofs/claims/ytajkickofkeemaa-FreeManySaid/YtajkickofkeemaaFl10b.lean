/- Layer 10: several threads; plain laws. -/
import Derived.Test.YtajkickofkeemaaFep
import Derived.Test.YtajkickofkeemaaFl9
import Derived.Test.YtajkickofkeemaaKn
import Derived.Test.YtajkickofkeemaaKj
import Derived.Test.YtajkickofkeemaaLl9w
namespace Go.Proofs.Ytajkickofkeemaa
open Go.RowKit
set_option linter.unusedVariables false
attribute [local irreducible] K.KW K.RW K.DW K.OW K.QR K.KC
section
variable {M : MemM} {n : Nat} {i j w th old : Int}
theorem put_peekN (hi : i < 0) (hl : -1 - i < M.pass.length) : (M.put i w).peek n j = if j = i then some w else M.peek n j := by
 rw [putP (by omega)]
 by_cases h : j = i
 ·subst h
  rw [if_pos rfl]
  have hl2 : (-1 - j).toNat < M.pass.length := by omega
  rw [peek_pass (by simp; omega)]; simp [hl2]
 ·rw [if_neg h]
  unfold MemM.peek
  by_cases hj : 0 ≤ j
  ·rw [if_pos hj, if_pos hj]
  ·rw [if_neg hj, if_neg hj]
   have hne : ¬ (-1 - i).toNat = (-1 - j).toNat := by omega
   simp [List.getD_eq_getElem?_getD, List.getElem?_set, hne]
theorem accS_peek (hi : i < 0) : (M.accS n th i w).1.peek n j = if j = i ∧ -1 - i < M.pass.length then some w else M.peek n j := by
 show (MemM.count (if (M.peek n i).isSome then M.put i w else M) _ _).peek n j = _
 by_cases hl : -1 - i < M.pass.length
 ·have hs : (M.peek n i).isSome = true := by rw [peek_pass ⟨hi, hl⟩]; rfl
  rw [if_pos hs]
  show (M.put i w).peek n j = _
  rw [put_peekN hi hl]
  by_cases h : j = i
  ·rw [if_pos h, if_pos ⟨h, hl⟩]
  ·rw [if_neg h, if_neg (fun x => h x.1)]
 ·have hs : ¬ (M.peek n i).isSome = true := by rw [peek_nopass hi (by omega)]; simp
  rw [if_neg hs, if_neg (fun x => hl x.2)]; rfl
theorem accW_peek (hi : i < 0) : (M.accW n th i old w).1.peek n j = if j = i ∧ M.peek n i = some old then some w else M.peek n j := by
 show (MemM.count (if (M.peek n i == some old) = true then M.put i w else M) _ _).peek n j = _
 by_cases h : M.peek n i = some old
 ·rw [if_pos (by simpa using h)]
  show (M.put i w).peek n j = _
  have hl : -1 - i < M.pass.length := by
   rcases peek_some h with h1 | h1
   ·omega
   ·exact h1.2
  rw [put_peekN hi hl]
  by_cases hj : j = i
  ·rw [if_pos hj, if_pos ⟨hj, h⟩]
  ·rw [if_neg hj, if_neg (fun x => hj x.1)]
 ·rw [if_neg (by simpa using h), if_neg (fun x => h x.2)]; rfl
end
section
variable {c : Cfg} {n : Nat} {S : AdvS} {M : MemM} {e : Int}
end
theorem hs_at {α : Type} {hs : List α} {t : Nat} (h : t < hs.length) : ∃ S, hs[t]? = some S := ⟨hs[t], List.getElem?_eq_getElem h⟩
end Go.Proofs.Ytajkickofkeemaa
