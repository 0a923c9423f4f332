/- Links: a word that is to last (plain laws). -/
import Derived.Test.YtkmndplicmaahaaFl13
import Derived.Test.YtkmndplicmaahaaLl4
import Derived.Test.YtkmndplicmaahaaLl7
namespace Go.Proofs.Ytkmndplicmaahaa
open Go.RowKit
set_option linter.unusedVariables false
attribute [local irreducible] K.KW K.RW K.DW K.OW K.QR K.KC
section
variable {n t : Nat} {th i v w o : Int} {M : MemM}
theorem lineT_get (W : List Int) (i : Nat) : W.getD i 0 = (lineT W (i / 8)).getD (i % 8) 0 := by
 unfold lineT
 simp only [List.getD_eq_getElem?_getD, List.getElem?_take, List.getElem?_drop]
 rw [if_pos (Nat.mod_lt _ (by decide)), show 8 * (i / 8) + i % 8 = i by omega]
theorem accF_in (hi : 0 ≤ i ∧ i < n * 8) (ht : 0 ≤ th ∧ th < t) : (M.accF n t th i).1 = ({ M with dev := M.dev.mark th.toNat (i / 8).toNat } : MemM).count ⟨4, th, i, 0, 0, true⟩ true := by
 have h : decide (0 ≤ i ∧ i < n * 8 ∧ 0 ≤ th ∧ th < t) = true := decide_eq_true ⟨hi.1, hi.2, ht⟩
 unfold MemM.accF; simp only [h]; rfl
theorem accE_in (ht : 0 ≤ th ∧ th < t) : (M.accE t th).1 = ({ M with dev := M.dev.fence th.toNat } : MemM).count ⟨5, th, 0, 0, 0, true⟩ true := by
 have h : decide (0 ≤ th ∧ th < t) = true := decide_eq_true ht
 unfold MemM.accE; simp only [h]; rfl
theorem accW_dev (h : M.peek n i = some o) (hi : 0 ≤ i) : (M.accW n th i o w).1.dev = M.dev.store i.toNat w := by
 have e : M.accW n th i o w = ((M.put i w).count ⟨3, th, i, o, w, true⟩ true, ⟨3, th, i, o, w, true⟩) := by simp [MemM.accW, h]
 rw [e]
 show (M.put i w).dev = _
 rw [putD hi]
/-- the word is put, dirty; from there on it is flushed, fenced, swapped clean -/
def LP (n t : Nat) (th i v : Int) (pc : Nat) (M : MemM) : Prop := M.dev.ok n t ∧ M.peek n i = some (soilI v) ∧
 (pc = 2 → (M.dev.flush.getD th.toNat []).getD (i / 8).toNat false = true) ∧ (pc = 3 → M.dev.kept.getD i.toNat 0 = soilI v)
theorem LP1 (hi : 0 ≤ i ∧ i < n * 8) (ht : 0 ≤ th ∧ th < t) (h : LP n t th i v 1 M) : LP n t th i v 2 (lastM n t th i 1 v M) := by
 have e : lastM n t th i 1 v M = (M.accF n t th i).1 := by unfold lastM; rw [if_pos rfl]
 rw [e, accF_in hi ht]
 have hB := h.1.getB (q := th.toNat) (by omega)
 refine ⟨h.1.mark (by omega), h.2.1, fun _ => ?_, fun h => absurd h (by decide)⟩
 show ((M.dev.mark th.toNat (i / 8).toNat).flush.getD th.toNat []).getD (i / 8).toNat false = true
 rw [show (M.dev.mark th.toNat (i / 8).toNat).flush.getD th.toNat [] = (M.dev.flush.getD th.toNat []).set (i / 8).toNat true from set_ok_get (by rw [h.1.2.2.2.1]; omega)]
 exact getD_set_self (by omega)
theorem fence_peek (hi : 0 ≤ i ∧ i < n * 8) {k : Nat} : (({ M with dev := M.dev.fence k } : MemM)).peek n i = M.peek n i := by
 rw [peek_dev hi, peek_dev hi]
 show some ((M.dev.fence k).seen.getD i.toNat 0) = _
 rw [DevM.fence_seen]
theorem fence_kept (hok : M.dev.ok n t) (hi : 0 ≤ i ∧ i < n * 8) {k : Nat} (hk : k < t) : (M.dev.fence k).kept.getD i.toNat 0 = if (M.dev.flush.getD k []).getD (i / 8).toNat false = true then M.dev.seen.getD i.toNat 0 else M.dev.kept.getD i.toNat 0 := by
 rw [lineT_get, fence_line hok hk (by omega), show (i / 8).toNat = i.toNat / 8 by omega]
 split
 ·rw [← lineT_get]
 ·rw [← lineT_get]
theorem LP2 (hi : 0 ≤ i ∧ i < n * 8) (ht : 0 ≤ th ∧ th < t) (h : LP n t th i v 2 M) : LP n t th i v 3 (lastM n t th i 2 v M) := by
 have e : lastM n t th i 2 v M = (M.accE t th).1 := by unfold lastM; rw [if_neg (by decide), if_pos rfl]
 rw [e, accE_in ht]
 refine ⟨h.1.fence (by omega), (fence_peek hi).trans h.2.1, fun h => absurd h (by decide), fun _ => ?_⟩
 show (M.dev.fence th.toNat).kept.getD i.toNat 0 = soilI v
 rw [fence_kept h.1 hi (by omega), if_pos (h.2.2.1 rfl)]
 have := h.2.1
 rw [peek_dev hi] at this
 exact Option.some.inj this
theorem LP3 (hi : 0 ≤ i ∧ i < n * 8) (h : LP n t th i v 3 M) : (lastM n t th i 3 v M).dev.ok n t ∧ (lastM n t th i 3 v M).peek n i = some v ∧ (lastM n t th i 3 v M).dev.kept.getD i.toNat 0 = soilI v := by
 have e : lastM n t th i 3 v M = (M.accW n th i (soilI v) v).1 := by unfold lastM; rw [if_neg (by decide), if_neg (by decide)]
 rw [e]
 obtain ⟨_, h2, _, _, h5⟩ := accW_t (th := th) (w := v) h.2.1 h.1
 exact ⟨h5, h2, by rw [accW_dev h.2.1 hi.1]; exact h.2.2.2 rfl⟩
theorem accL_old (h : M.peek n i = some w) : (M.accL n th i).2.old = w := by show (M.peek n i).getD 0 = w; rw [h]; rfl
def SA (n t : Nat) (th i o v : Int) (k : Nat) (S : SeS) (M : MemM) : Prop := S.t = th ∧ S.at_ = i ∧ S.word = v ∧ S.old = o ∧
 ((k = 0 ∧ S.pc = 0 ∧ M.dev.ok n t ∧ M.peek n i = some o) ∨ (1 ≤ k ∧ k ≤ 3 ∧ S.pc = (k : Int) ∧ S.put = true ∧ LP n t th i v k M) ∨
  (k = 4 ∧ S.pc = 4 ∧ S.put = true ∧ M.dev.ok n t ∧ M.peek n i = some v ∧ M.dev.kept.getD i.toNat 0 = soilI v))
theorem SA_step {k : Nat} {S : SeS} (hi : 0 ≤ i ∧ i < n * 8) (ht : 0 ≤ th ∧ th < t) (hk : k < 4) (h : SA n t th i o v k S M) : SA n t th i o v (k + 1) (seStep n t S M).1 (seStep n t S M).2 := by
 obtain ⟨h1, h2, h3, h4, h⟩ := h
 rcases h with ⟨rfl, hp, hok, hpk⟩ | ⟨hk1, hk2, hp, hw, hL⟩ | ⟨h5, _⟩
 ·obtain ⟨a, b, _, _, c⟩ := accW_t (th := S.t) (w := soilI S.word) hpk hok
  have ea : seA n S M = M.accW n S.t i o (soilI S.word) := by unfold seA; rw [h2, h4]
  have e : seStep n t S M = (⟨S.t, S.at_, 1, S.word, (seA n S M).1.clock, S.old, true, wrM (seA n S M).1 S.at_⟩, (seA n S M).1) := by
   unfold seStep; rw [if_neg (by omega), if_pos hp, if_pos (by rw [ea]; exact a)]
  rw [e, ea]
  rw [h3] at b c ⊢
  exact ⟨h1, h2, rfl, h4, .inr (.inl ⟨by omega, by omega, rfl, rfl, c, b, fun h => absurd h (by decide), fun h => absurd h (by decide)⟩)⟩
 ·have e : seStep n t S M = (⟨S.t, S.at_, S.pc + 1, S.word, S.when_, S.old, S.put, S.writes⟩, lastM n t S.t S.at_ S.pc S.word M) := by unfold seStep; rw [if_neg (by omega), if_neg (by omega)]
  rw [e, hp, h1, h2, h3]
  match k, hk1, hk2, hL with
  | 1, _, _, hL => exact ⟨rfl, rfl, rfl, h4, .inr (.inl ⟨by omega, by omega, rfl, hw, LP1 hi ht hL⟩)⟩
  | 2, _, _, hL => exact ⟨rfl, rfl, rfl, h4, .inr (.inl ⟨by omega, by omega, rfl, hw, LP2 hi ht hL⟩)⟩
  | 3, _, _, hL => exact ⟨rfl, rfl, rfl, h4, .inr (.inr ⟨rfl, rfl, hw, LP3 hi hL⟩)⟩
 ·omega
end
end Go.Proofs.Ytkmndplicmaahaa
