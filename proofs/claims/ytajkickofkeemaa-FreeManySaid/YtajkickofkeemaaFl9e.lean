/- Layer 9: a Pop and a Push alone: the plain law. -/
import Derived.Test.YtajkickofkeemaaFl9d
namespace Go.Proofs.Ytajkickofkeemaa
open Go.RowKit
set_option linter.unusedVariables false
attribute [local irreducible] K.KW K.RW K.DW K.OW K.QR K.KC
theorem toI_topI {x v : Int} (h : -1 ≤ x ∧ x < 4294967295) : toI (topI x v) = x := by unfold toI topI; omega
theorem toI_newer {x w : Int} (h : -1 ≤ x ∧ x < 4294967295) : toI (newerI x w) = x := toI_topI h
theorem toI_lt (w : Int) : toI w < 4294967295 := by unfold toI; omega
theorem clkS {M : MemM} {n : Nat} {th i w : Int} : (M.accS n th i w).1.clock = i64s M.clock := by
 show i64s (if (M.peek n i).isSome then M.put i w else M).clock = _
 split
 ·unfold MemM.put; split <;> rfl
 ·rfl
/-- a ground of which the slots 0, 1, .. are free -/
structure FGround (c : Cfg) (n : Nat) (m : Nat) (M : MemM) : Prop where
 good : M.good
 pl : (M.pass.length : Int) = 2 + c.th + c.sl
 cl : M.clock = m
 tp : ∃ w, M.peek n (-2) = some w ∧ 0 ≤ w ∧ w < 4294967296
 af : ∀ s : Int, 0 ≤ s → s < c.sl → ∃ w, M.peek n (-3 - c.th - s) = some w
 ch : ChainF (aftW c n M) (topW n M) (rangeI m)
theorem fground {c : Cfg} {n t k m : Nat} (hk : (k : Int) = 2 + c.th + c.sl) (hth : 1 ≤ c.th) (hm : (m : Int) ≤ c.sl) (hs : c.sl ≤ 30) (hc : cfgOk c) : FGround c n m (groundM n t k (rowsTo c (rangeI m) m)) := by
 obtain ⟨h1, h2, h3⟩ := rows_peek (n := n) (t := t) hk hth hm hs m (Nat.le_refl m)
 exact ⟨ground_good (fun j hj => (rows_good hc _ _ j hj).2), by rw [ground_pass]; exact hk, h3, ⟨_, h1, by split <;> omega⟩, fun s h h' => ⟨_, h2 s h h'⟩, rows_chain hk hth hm hs⟩
end Go.Proofs.Ytajkickofkeemaa
