/- The statement RetireSlots. -/
import Derived.Test.YtkmndplicmaahaaFl11
import Derived.Test.YtkmndplicmaahaaKn
namespace Go.Proofs.Ytkmndplicmaahaa
open Go.RowKit
set_option linter.unusedVariables false
attribute [local irreducible] K.KW K.RW K.DW K.OW K.QR K.KC
theorem slotsT_le {c : Cfg} {n : Nat} {M : MemM} {tt : Int} {j : Nat} : ∀ N, j ≤ N → ∃ r, slotsT c n M tt N = slotsT c n M tt j ++ r
 | 0, h => ⟨[], by rw [show j = 0 by omega]; simp⟩
 | N + 1, h => by
  by_cases hj : j = N + 1
  ·exact ⟨[], by rw [hj]; simp⟩
  ·obtain ⟨r, hr⟩ := slotsT_le (c := c) (n := n) (M := M) (tt := tt) N (show j ≤ N by omega)
   have e : ∃ x, slotsT c n M tt (N + 1) = slotsT c n M tt N ++ x := ⟨_, by unfold slotsT; rw [List.range_succ, List.filterMap_append]⟩
   obtain ⟨x, hx⟩ := e
   exact ⟨r ++ x, by rw [hx, hr, List.append_assoc]⟩
theorem slotsT_at {c : Cfg} {n : Nat} {M : MemM} {tt y : Int} {j N : Nat} (h : M.peek n (logS c tt ((j : Nat) : Int)) = some y) (hy : ¬ y = 0) (hj : j < N) : (slotsT c n M tt j).length < (slotsT c n M tt N).length ∧ (slotsT c n M tt N).getD (slotsT c n M tt j).length 0 = toI y := by
 obtain ⟨r, hr⟩ := slotsT_le (c := c) (n := n) (M := M) (tt := tt) (j := j + 1) N (by omega)
 rw [slotsT_yes h hy] at hr
 rw [hr]
 exact ⟨by simp, by simp⟩
end Go.Proofs.Ytkmndplicmaahaa
