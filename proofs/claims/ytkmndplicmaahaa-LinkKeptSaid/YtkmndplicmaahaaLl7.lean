/- The statements of layer 7. -/
import Derived.Test.YtkmndplicmaahaaFl7
import Derived.Test.YtkmndplicmaahaaKn
namespace Go.Proofs.Ytkmndplicmaahaa
open Go.RowKit
set_option linter.unusedVariables false
attribute [local irreducible] K.KW K.RW K.DW K.OW K.QR K.KC
theorem peek_put {M : MemM} {n t : Nat} {i y w : Int} (h : M.peek n i = some y) (hd : M.dev.ok n t) : (M.put i w).peek n i = some w ∧ (M.put i w).dev.ok n t := by
 rcases peek_some h with h1 | h1
 ·rw [putD h1.1]
  refine ⟨?_, hd.store⟩
  rw [peek_dev h1]
  have : i.toNat < M.dev.seen.length := by rw [hd.2.1]; omega
  simp [DevM.store, this]
 ·rw [putP (by omega)]
  refine ⟨?_, hd⟩
  have hl : (-1 - i).toNat < M.pass.length := by omega
  rw [peek_pass (by simpa using h1)]
  simp [hl]
theorem put_bc (M : MemM) (i w : Int) : (M.put i w).bad = M.bad ∧ (M.put i w).clock = M.clock := by unfold MemM.put; split <;> exact ⟨rfl, rfl⟩
theorem accW_t {M : MemM} {n t : Nat} {th i old w : Int} (h : M.peek n i = some old) (hd : M.dev.ok n t) :
  (M.accW n th i old w).2.done = true ∧ (M.accW n th i old w).1.peek n i = some w ∧ (M.accW n th i old w).1.bad = M.bad ∧ (M.accW n th i old w).1.clock = i64s M.clock ∧ (M.accW n th i old w).1.dev.ok n t := by
 have e : M.accW n th i old w = ((M.put i w).count ⟨3, th, i, old, w, true⟩ true, ⟨3, th, i, old, w, true⟩) := by simp [MemM.accW, h]
 rw [e]
 obtain ⟨h1, h2⟩ := peek_put (w := w) h hd
 obtain ⟨h3, h4⟩ := put_bc M i w
 exact ⟨rfl, h1, h3, by show i64s (M.put i w).clock = _; rw [h4], h2⟩
end Go.Proofs.Ytkmndplicmaahaa
