/- Layer 10: an advance alone: the plain law. -/
import Derived.Test.YtajkickofkeemaaFl10b
namespace Go.Proofs.Ytajkickofkeemaa
open Go.RowKit
set_option linter.unusedVariables false
attribute [local irreducible] K.KW K.RW K.DW K.OW K.QR K.KC

def wOf (now x : Int) : Int := if x % 3 = 1 then now + 1 else if x % 3 = 2 ∧ 0 < now then now else 0
def putsA (now : Int) (xs : List Int) (j : Nat) : List PutM := ⟨-1, now⟩ :: (List.range j).map fun (i : Nat) => ⟨-3 - (i : Int), wOf now (xs.getD i 0)⟩
theorem putsA_succ (now : Int) (xs : List Int) (j : Nat) : putsA now xs (j + 1) = putsA now xs j ++ [⟨-3 - (j : Int), wOf now (xs.getD j 0)⟩] := by unfold putsA; rw [List.range_succ, List.map_append]; rfl
theorem putsA_len (now : Int) (xs : List Int) (j : Nat) : (putsA now xs j).length = j + 1 := by simp [putsA]
theorem wOf_w {now x : Int} (h : 0 ≤ now ∧ now ≤ 255) : 0 ≤ wOf now x ∧ wOf now x ≤ 256 := by unfold wOf; split; omega; split <;> omega
theorem wOf1 {now x : Int} (h : x % 3 = 1) : wOf now x = now + 1 := by unfold wOf; rw [if_pos h]
theorem wOf2 {now x : Int} (h : x % 3 = 2) (hn : 0 < now) : wOf now x = now := by unfold wOf; rw [if_neg (by omega), if_pos ⟨h, hn⟩]
theorem wOf0 {now x : Int} (h : ¬ x % 3 = 1) (h2 : ¬ (x % 3 = 2 ∧ 0 < now)) : wOf now x = 0 := by unfold wOf; rw [if_neg h, if_neg h2]
theorem putsA_get {now : Int} {xs : List Int} {j i : Nat} (h : i < j + 1) : (putsA now xs j).getD i pu0 = if i = 0 then ⟨-1, now⟩ else ⟨-3 - ((i - 1 : Nat) : Int), wOf now (xs.getD (i - 1) 0)⟩ := by
 unfold putsA
 cases i with
 | zero => rfl
 | succ i => simp; rw [List.getElem?_range (by omega)]; rfl
theorem putsA_good {now : Int} {xs : List Int} {m : Nat} (h : 0 ≤ now ∧ now ≤ 255) (hm : m ≤ 100) : ∀ j, j < (putsA now xs m).length → isInt ((putsA now xs m).getD j pu0).at_ ∧ isW ((putsA now xs m).getD j pu0).w := fun j hj => by
 rw [putsA_len] at hj
 rw [putsA_get hj]
 split
 ·exact ⟨by show isInt (-1); omega, by show isW now; unfold isW; omega⟩
 ·exact ⟨by show isInt (-3 - ((j - 1 : Nat) : Int)); omega, by have := wOf_w (x := xs.getD (j - 1) 0) h; show isW (wOf now (xs.getD (j - 1) 0)); unfold isW; omega⟩
theorem ground_snoc (n t k : Nat) (ps : List PutM) (p : PutM) : groundM n t k (ps ++ [p]) = ((groundM n t k ps).accS n 0 p.at_ p.w).1 := by unfold groundM putsT; rw [List.foldl_append]; rfl
theorem i64s_in {x : Int} (h : -9223372036854775808 ≤ x ∧ x < 9223372036854775807) : i64s x = x + 1 := by unfold i64s; exact IntWalk.i64_in _ (by omega)
theorem accS_clock {M : MemM} {n : Nat} {th i w : Int} : (M.accS n th i w).1.clock = i64s M.clock := by
 show i64s (if (M.peek n i).isSome then M.put i w else M).clock = _
 split
 ·unfold MemM.put; split <;> rfl
 ·rfl
theorem accW_clock {M : MemM} {n : Nat} {th i old w : Int} : (M.accW n th i old w).1.clock = i64s M.clock := by
 show i64s (if (M.peek n i == some old) = true then M.put i w else M).clock = _
 split
 ·unfold MemM.put; split <;> rfl
 ·rfl
theorem alone_ground {n t k : Nat} {now : Int} {xs : List Int} : ∀ (j : Nat), j + 2 < k → j ≤ 100 → (groundM n t k (putsA now xs j)).peek n (-1) = some now ∧ (∀ i : Nat, i < j → (groundM n t k (putsA now xs j)).peek n (-3 - (i : Int)) = some (wOf now (xs.getD i 0))) ∧ (groundM n t k (putsA now xs j)).clock = 1 + j
 | 0, hk, _ => ⟨one_peek (by omega), fun i h => absurd h (by omega), by
  show (MemM.accS _ n 0 (-1) now).1.clock = _
  rw [accS_clock]; exact i64s_in (by show (-9223372036854775808 : Int) ≤ 0 ∧ (0 : Int) < 9223372036854775807; decide)⟩
 | j + 1, hk, hj => by
  obtain ⟨h1, h2, h3⟩ := alone_ground (n := n) (t := t) (k := k) (now := now) (xs := xs) j (by omega) (by omega)
  have hl : (groundM n t k (putsA now xs j)).pass.length = k := ground_pass
  rw [putsA_succ, ground_snoc]
  have pk : ∀ i : Int, ((groundM n t k (putsA now xs j)).accS n 0 (-3 - (j : Int)) (wOf now (xs.getD j 0))).1.peek n i = if i = -3 - (j : Int) then some (wOf now (xs.getD j 0)) else (groundM n t k (putsA now xs j)).peek n i := fun i => by
   rw [accS_peek (by omega)]
   by_cases hi : i = -3 - (j : Int)
   ·rw [if_pos ⟨hi, by omega⟩, if_pos hi]
   ·rw [if_neg (fun h => hi h.1), if_neg hi]
  refine ⟨by rw [pk, if_neg (by omega)]; exact h1, fun i hi => ?_, by rw [accS_clock, h3, i64s_in (by omega)]; omega⟩
  rw [pk]
  by_cases h : i = j
  ·subst h; rw [if_pos rfl]
  ·rw [if_neg (by omega)]; exact h2 i (by omega)
/-- an advance alone, behind i steps -/
structure AInv (c : Cfg) (n : Nat) (now was : Int) (W : Nat → Int) (i : Nat) (S : AdvS) (M : MemM) : Prop where
 good : S.good
 mg : M.good
 st : (S.done = false ∧ S.moved = false ∧ M.peek n (-1) = some now ∧ (∀ k : Nat, (k : Int) < c.th → M.peek n (-3 - (k : Int)) = some (W k)) ∧ M.clock = was + i ∧ ((i = 0 ∧ S.pc = 0 ∧ S.next = 0) ∨ (1 ≤ i ∧ S.pc = 1 ∧ S.now = now ∧ S.next = i - 1 ∧ (i : Int) - 1 ≤ c.th ∧ ∀ k : Nat, (k : Int) < i - 1 → W k = 0 ∨ W k = now + 1)))
  ∨ (S.done = true ∧ S.moved = true ∧ M.peek n (-1) = some (now + 1) ∧ M.clock = was + c.th + 2 ∧ ∀ k : Nat, (k : Int) < c.th → W k = 0 ∨ W k = now + 1)
  ∨ (S.done = true ∧ S.moved = false ∧ M.peek n (-1) = some now ∧ M.clock ≤ was + c.th + 1 ∧ ∃ k : Nat, (k : Int) < c.th ∧ W k ≠ 0 ∧ W k ≠ now + 1)
theorem AInv.next {c : Cfg} {n : Nat} {now was : Int} {W : Nat → Int} {i : Nat} {S : AdvS} {M : MemM} (hc : cfgOk c) (hn : 0 ≤ now ∧ now ≤ 255) (hw : 0 ≤ was ∧ was ≤ 1000) (ht : 1 ≤ c.th ∧ c.th ≤ 6) (hi : i ≤ 100) (I : AInv c n now was W i S M) : AInv c n now was W (i + 1) (advStep c n S M).1 (advStep c n S M).2 := by
 obtain ⟨hg, hm, hst⟩ := I
 obtain ⟨hg', hm'⟩ := advStep_good hc (n := n) hg hm
 refine ⟨hg', hm', ?_⟩
 rcases hst with ⟨hd, hmv, hp, ha, hcl, h⟩ | h | h
 ·rcases h with ⟨hi0, hpc, hnx⟩ | ⟨hi1, hpc, hnw, hnx, hle, hall⟩
  ·have e1 : advStep c n S M = (⟨S.t, S.done, 1, (M.accL n S.t (-1)).2.old, S.next, S.moved⟩, (M.accL n S.t (-1)).1) := by unfold advStep; rw [if_neg (by rw [hd]; decide), if_pos hpc]
   rw [e1]
   refine .inl ⟨hd, hmv, hp, ha, by show i64s M.clock = _; rw [hcl, i64s_in (by omega)]; omega, .inr ⟨by omega, rfl, ?_, by show S.next = _; omega, by omega, fun k hk => absurd hk (by omega)⟩⟩
   show (M.peek n (-1)).getD 0 = now
   rw [hp]; rfl
  ·have hp0 : ¬ S.pc = 0 := by omega
   by_cases hlt : S.next < c.th
   ·have e1 : advStep c n S M = askS c n S M := by unfold advStep; rw [if_neg (by rw [hd]; decide), if_neg hp0, if_pos hlt]
    obtain ⟨k, hk⟩ : ∃ k : Nat, S.next = k := ⟨S.next.toNat, by omega⟩
    have hw0 : askW c n S M = W k := by
     show (M.peek n (annS c S.next)).getD 0 = _
     rw [hk, show annS c (k : Int) = -3 - (k : Int) by unfold annS; rw [if_pos (by omega)], ha k (by omega)]; rfl
    have hinc : inc64 S.now = now + 1 := by rw [hnw]; unfold inc64; omega
    rw [e1]
    by_cases hb : W k ≠ 0 ∧ W k ≠ now + 1
    ·have hdec : decide (askW c n S M ≠ 0 ∧ askW c n S M ≠ inc64 S.now) = true := decide_eq_true (by rw [hw0, hinc]; exact hb)
     exact .inr (.inr ⟨hdec, hmv, hp, by show i64s M.clock ≤ _; rw [hcl, i64s_in (by omega)]; omega, k, by omega, hb⟩)
    ·have hdec : decide (askW c n S M ≠ 0 ∧ askW c n S M ≠ inc64 S.now) = false := decide_eq_false (by rw [hw0, hinc]; exact hb)
     refine .inl ⟨hdec, hmv, hp, ha, by show i64s M.clock = _; rw [hcl, i64s_in (by omega)]; omega, .inr ⟨by omega, hpc, hnw, by show S.next + 1 = _; omega, by omega, fun q hq => ?_⟩⟩
     by_cases hqk : q = k
     ·subst hqk; omega
     ·exact hall q (by omega)
   ·have e1 : advStep c n S M = (⟨S.t, true, 2, S.now, S.next, (advA n S M).2.done⟩, (advA n S M).1) := by unfold advStep; rw [if_neg (by rw [hd]; decide), if_neg hp0, if_neg hlt]
    have hinc : inc64 S.now = now + 1 := by rw [hnw]; unfold inc64; omega
    have hp2 : M.peek n (-1) = some S.now := by rw [hp, hnw]
    rw [e1]
    refine .inr (.inl ⟨rfl, ?_, ?_, ?_, fun k hk => hall k (by omega)⟩)
    ·show (M.peek n (-1) == some S.now) = true
     rw [hp2]; simp
    ·show (M.accW n S.t (-1) S.now (inc64 S.now)).1.peek n (-1) = _
     rw [accW_peek (by omega), if_pos ⟨rfl, hp2⟩, hinc]
    ·show (M.accW n S.t (-1) S.now (inc64 S.now)).1.clock = _
     rw [accW_clock, hcl, i64s_in (by omega)]; omega
 ·have e1 : advStep c n S M = (S, M) := by unfold advStep; rw [if_pos h.1]
  rw [e1]; exact .inr (.inl h)
 ·have e1 : advStep c n S M = (S, M) := by unfold advStep; rw [if_pos h.1]
  rw [e1]; exact .inr (.inr h)
theorem AInv.yes {c : Cfg} {n : Nat} {now was : Int} {W : Nat → Int} {i : Nat} {S : AdvS} {M : MemM} (ht : c.th ≤ 6) (I : AInv c n now was W i S M) (hi : i = 20) (h : ∀ k : Nat, (k : Int) < c.th → W k = 0 ∨ W k = now + 1) : S.done = true ∧ S.moved = true ∧ M.peek n (-1) = some (now + 1) ∧ M.clock = was + c.th + 2 := by
 rcases I.st with ⟨_, _, _, _, _, h1 | h1⟩ | h1 | ⟨_, _, _, _, k, hk, h2⟩
 ·omega
 ·omega
 ·exact ⟨h1.1, h1.2.1, h1.2.2.1, h1.2.2.2.1⟩
 ·have := h k hk; omega
theorem AInv.nay {c : Cfg} {n : Nat} {now was : Int} {W : Nat → Int} {i : Nat} {S : AdvS} {M : MemM} (ht : c.th ≤ 6) (I : AInv c n now was W i S M) (hi : i = 20) (h : ∃ k : Nat, (k : Int) < c.th ∧ W k ≠ 0 ∧ W k ≠ now + 1) : S.done = true ∧ S.moved = false ∧ M.peek n (-1) = some now ∧ M.clock ≤ was + c.th + 1 := by
 obtain ⟨k, hk, h2⟩ := h
 rcases I.st with ⟨_, _, _, _, _, h1 | h1⟩ | h1 | ⟨h1, h3, h4, h5, _⟩
 ·omega
 ·omega
 ·have := h1.2.2.2.2 k hk; omega
 ·exact ⟨h1, h3, h4, h5⟩
theorem AInv.c0 {c : Cfg} {n : Nat} {now was : Int} {W : Nat → Int} {M : MemM} (I : AInv c n now was W 0 ⟨0, false, 0, 0, 0, false⟩ M) : M.clock = was := by
 rcases I.st with ⟨_, _, _, _, h, _⟩ | ⟨h, _⟩ | ⟨h, _⟩
 ·simpa using h
 ·cases h
 ·cases h
theorem AInv.start {c : Cfg} {n t k m : Nat} {now : Int} {xs : List Int} (hn : 0 ≤ now ∧ now ≤ 255) (ht : 1 ≤ c.th ∧ c.th ≤ 6) (hx : (m : Int) = c.th) (hk : m + 2 < k) : AInv c n now (1 + c.th) (fun i => wOf now (xs.getD i 0)) 0 ⟨0, false, 0, 0, 0, false⟩ (groundM n t k (putsA now xs m)) := by
 obtain ⟨h1, h2, h3⟩ := alone_ground (n := n) (t := t) (k := k) (now := now) (xs := xs) m hk (by omega)
 exact ⟨⟨by show isInt 0; omega, isW00, ⟨Int.le_refl _, (by decide : (0 : Int) ≤ 64)⟩, .inr (.inl ⟨rfl, rfl⟩)⟩, ground_good (fun j hj => (putsA_good hn (by omega) j hj).2), .inl ⟨rfl, rfl, h1, fun k hk => h2 k (by omega), by rw [h3]; omega, .inl ⟨rfl, rfl, rfl⟩⟩⟩
def mayT (now : Int) (xs : List Int) (j : Nat) : Prop := ∀ k : Nat, k < j → ¬ (xs.getD k 0 % 3 = 2 ∧ 0 < now)
theorem may_yes {now : Int} {xs : List Int} {j : Nat} (h : mayT now xs j) : ∀ k : Nat, k < j → wOf now (xs.getD k 0) = 0 ∨ wOf now (xs.getD k 0) = now + 1 := fun k hk => by
 by_cases h1 : xs.getD k 0 % 3 = 1
 ·exact .inr (wOf1 h1)
 ·exact .inl (wOf0 h1 (h k hk))
theorem may_nay {now : Int} {xs : List Int} {j : Nat} (h : ¬ mayT now xs j) : ∃ k : Nat, k < j ∧ wOf now (xs.getD k 0) ≠ 0 ∧ wOf now (xs.getD k 0) ≠ now + 1 := by
 have : ∃ k : Nat, k < j ∧ (xs.getD k 0 % 3 = 2 ∧ 0 < now) := Classical.byContradiction fun hn => h fun k hk h2 => hn ⟨k, hk, h2⟩
 obtain ⟨k, hk, h1, h2⟩ := this
 exact ⟨k, hk, by rw [wOf2 h1 h2]; omega, by rw [wOf2 h1 h2]; omega⟩
theorem may_succ {now : Int} {xs : List Int} {j : Nat} (h : ¬ (xs.getD j 0 % 3 = 2 ∧ 0 < now)) : mayT now xs (j + 1) ↔ mayT now xs j := ⟨fun h1 k hk => h1 k (by omega), fun h1 k hk => by
 by_cases hkj : k = j
 ·subst hkj; exact h
 ·exact h1 k (by omega)⟩

end Go.Proofs.Ytajkickofkeemaa
