/- Layer 11: the machines and the document's: the plain law. -/
import Derived.Test.YtkmndplicmaahaaGreatFr11
namespace Go.Proofs.YtkmndplicmaahaaGreat
open Go.RowKit
set_option linter.unusedVariables false
attribute [local irreducible] K.KW K.RW K.DW K.OW K.QR K.KC
def lineR (pc : Int) : Int := if pc = 5 then 0 else pc + 1
def lineC (pc : Int) : Int := if pc = 5 then 0 else if pc = 4 then 4 else pc + 1
inductive MachR where
 | res (S : ResS)
 | can (S : CanS)
 | sta (S : StaS)
 | rc (S : RecS)
def resGood (c : Cfg) (S : ResS) : Prop := S.good ∧ (S.pc = 0 → S.next < c.lo) ∧ (S.pc = 1 ∨ S.pc = 2 ∨ S.pc = 3 → S.place < c.lo)
def canGood (S : CanS) : Prop := S.good ∧ (S.pc = 0 ∨ S.pc = 5)
def MachR.good (c : Cfg) : MachR → Prop
 | .res S => resGood c S
 | .can S => canGood S
 | .sta S => S.good
 | .rc S => S.good c
def MachR.done : MachR → Bool
 | .res S => S.done
 | .can S => S.done
 | .sta S => S.done
 | .rc S => S.done
def stepR (c : Cfg) (n nt : Nat) : MachR → MemM → MachR × MemM
 | .res S, M => (.res (resStep c n nt S M).1, (resStep c n nt S M).2)
 | .can S, M => (.can (canStep c n S M).1, (canStep c n S M).2)
 | .sta S, M => (.sta (staStep c n nt S M).1, (staStep c n nt S M).2)
 | .rc S, M => (.rc (recStep c n S M).1, (recStep c n S M).2)
structure DM.ok (D : DM) : Prop where
 t : isInt D.t
 slot : isInt D.slot
 now : isW D.now
 pt : isInt D.push.t
 ps : isInt D.push.slot
 pw : isW D.push.top
def relRes (c : Cfg) (S : ResS) (D : DM) : Prop := D.t = S.t ∧ D.kind = 0 ∧ D.line = lineR S.pc ∧ D.n = (if S.pc = 0 then S.next else S.place) ∧ D.slot = S.slot ∧ D.place = rePlace c S ∧ D.holds = -1 ∧ D.count = 0
def relCan (S : CanS) (D : DM) : Prop := D.t = S.t ∧ D.kind = 1 ∧ D.line = (if S.pc = 5 then 0 else 1) ∧ D.n = S.place ∧ D.holds = -1 ∧ D.count = 0
def relSta (S : StaS) (D : DM) : Prop := D.t = S.t ∧ D.kind = 2 ∧ D.line = lineR S.pc ∧ D.n = S.place ∧ D.slot = S.slot ∧ D.now = S.now ∧ D.holds = -1 ∧ D.count = 0
def relRec (c : Cfg) (S : RecS) (D : DM) : Prop := D.t = S.t ∧ D.kind = 3 ∧ D.line = lineC S.pc ∧ D.n = (if S.pc = 2 ∨ S.pc = 4 then S.next - 1 else S.next) ∧ D.now = S.now ∧ D.holds = recHolds S ∧ D.count = S.count ∧ (S.pc = 2 ∨ S.pc = 4 → D.slot = S.slot) ∧ (S.pc = 4 → D.pc = c ∧ D.push = ⟨S.push.t, S.push.pc + 1, S.push.top, S.push.slot⟩)
def RelD (c : Cfg) : MachR → DM → Prop
 | .res S, D => relRes c S D
 | .can S, D => relCan S D
 | .sta S, D => relSta S D
 | .rc S, D => relRec c S D
section
variable {c : Cfg} {n nt : Nat} {D : DM} {M : MemM}
theorem dS0 (h : D.line = 0) : dStep c n nt D M = (D, M) := if_pos h
theorem dSrec (h : ¬ D.line = 0) (hk : D.kind = 3) : dStep c n nt D M = dRec c n D M := by unfold dStep; rw [if_neg h, if_pos hk]
theorem dScan (h : ¬ D.line = 0) (hk : D.kind = 1) : dStep c n nt D M = (dLine D 0, (M.accS n D.t (logS c D.t D.n) 0).1) := by unfold dStep; rw [if_neg h, if_neg (by omega), if_pos hk]
theorem dSlast (h : D.line ≥ 3) (hk : D.kind = 0 ∨ D.kind = 2) : dStep c n nt D M = dLast c n nt D M := by unfold dStep; rw [if_neg (by omega), if_neg (by omega), if_neg (by omega), if_pos h]
theorem dSres (h : D.line = 1 ∨ D.line = 2) (hk : D.kind = 0) : dStep c n nt D M = dRes c n D M := by unfold dStep; rw [if_neg (by omega), if_neg (by omega), if_neg (by omega), if_neg (by omega), if_pos hk]
theorem dSsta1 (h : D.line = 1) (hk : D.kind = 2) : dStep c n nt D M = (⟨D.t, D.kind, 2, D.n, D.slot, D.place, (M.accL n D.t (-1)).2.old, D.holds, D.count, D.pc, D.push⟩, (M.accL n D.t (-1)).1) := by unfold dStep; rw [if_neg (by omega), if_neg (by omega), if_neg (by omega), if_neg (by omega), if_neg (by omega), if_pos h]
theorem dSsta2 (h : D.line = 2) (hk : D.kind = 2) : dStep c n nt D M = (dLine D 3, (M.accS n D.t (logS c D.t D.n) (entryI D.slot D.now)).1) := by unfold dStep; rw [if_neg (by omega), if_neg (by omega), if_neg (by omega), if_neg (by omega), if_neg (by omega), if_neg (by omega)]
theorem rePlace_no {S : ResS} (h : ¬ S.pc = 5) : rePlace c S = -1 := if_neg (fun h2 => h h2.1)
theorem rel_res {S : ResS} (hlo : c.lo ≤ 64) (hS : resGood c S) (hr : relRes c S D) : (resGood c (resStep c n nt S M).1 ∧ relRes c (resStep c n nt S M).1 (dStep c n nt D M).1) ∧ (dStep c n nt D M).2 = (resStep c n nt S M).2 := by
 obtain ⟨hg, hx, hy⟩ := hS
 obtain ⟨ht, hk, hl, hn, hs, hp, hh, hq⟩ := hr
 obtain ⟨t, pc, sl, nx, pl⟩ := S
 obtain ⟨hg1, hg2, hg3, hg4, hg5⟩ := hg
 have hg2 : 0 ≤ pc ∧ pc ≤ 5 ∧ ¬ pc = 4 := hg2
 have hg4 : 0 ≤ nx ∧ nx ≤ 64 := hg4
 have hg5 : 0 ≤ pl ∧ pl ≤ 64 := hg5
 have ht : D.t = t := ht
 have hs : D.slot = sl := hs
 have h5 : pc = 0 ∨ pc = 1 ∨ pc = 2 ∨ pc = 3 ∨ pc = 5 := by omega
 rcases h5 with rfl | rfl | rfl | rfl | rfl
 ·have hlt : nx < c.lo := hx rfl
  have hl1 : D.line = 1 := hl
  have hn1 : D.n = nx := hn.trans (if_pos rfl)
  have hp1 : D.place = -1 := hp.trans (rePlace_no (by simp))
  rw [dSres (.inl hl1) hk]
  have eA : dLd c n D M = reLd c n ⟨t, 0, sl, nx, pl⟩ M := by unfold dLd reLd; rw [ht, hn1]
  have e0 : resStep c n nt ⟨t, 0, sl, nx, pl⟩ M = relook c n ⟨t, 0, sl, nx, pl⟩ M := by unfold resStep; rw [if_neg (by simp), if_pos rfl]
  have eD : dRes c n D M = if (reLd c n ⟨t, 0, sl, nx, pl⟩ M).2.old = 0 then (dLine D 2, (reLd c n ⟨t, 0, sl, nx, pl⟩ M).1) else (dOn c D, (reLd c n ⟨t, 0, sl, nx, pl⟩ M).1) := by unfold dRes; rw [if_pos hl1, eA]
  rw [e0, eD]
  by_cases h0 : (reLd c n ⟨t, 0, sl, nx, pl⟩ M).2.old = 0
  ·have e1 : relook c n ⟨t, 0, sl, nx, pl⟩ M = (⟨t, 1, sl, nx + 1, nx⟩, (reLd c n ⟨t, 0, sl, nx, pl⟩ M).1) := by unfold relook; rw [if_pos hlt, if_pos h0]
   rw [e1, if_pos h0]
   exact ⟨⟨⟨⟨hg1, (by decide : (0 : Int) ≤ 1 ∧ (1 : Int) ≤ 5 ∧ ¬ (1 : Int) = 4), hg3, (by omega : 0 ≤ nx + 1 ∧ nx + 1 ≤ 64), hg4⟩, fun h => absurd (show (1 : Int) = 0 from h) (by decide), fun _ => hlt⟩,
    ht, hk, rfl, hn1.trans (if_neg (by simp)).symm, hs, hp1.trans (rePlace_no (by simp)).symm, hh, hq⟩, rfl⟩
  ·rw [if_neg h0]
   by_cases hla : nx + 1 = c.lo
   ·have e1 : relook c n ⟨t, 0, sl, nx, pl⟩ M = (⟨t, 5, sl, nx + 1, nx + 1⟩, (reLd c n ⟨t, 0, sl, nx, pl⟩ M).1) := by unfold relook; rw [if_pos hlt, if_neg h0, if_pos hla]
    have e2 : dOn c D = ⟨D.t, D.kind, 0, D.n + 1, D.slot, D.place, D.now, D.holds, D.count, D.pc, D.push⟩ := by unfold dOn; rw [if_pos (by omega)]
    rw [e1, e2]
    exact ⟨⟨⟨⟨hg1, (by decide : (0 : Int) ≤ 5 ∧ (5 : Int) ≤ 5 ∧ ¬ (5 : Int) = 4), hg3, (by omega : 0 ≤ nx + 1 ∧ nx + 1 ≤ 64), (by omega : 0 ≤ nx + 1 ∧ nx + 1 ≤ 64)⟩, fun h => absurd (show (5 : Int) = 0 from h) (by decide), fun h => by have h : (5 : Int) = 1 ∨ (5 : Int) = 2 ∨ (5 : Int) = 3 := h; omega⟩,
     ht, hk, rfl, (show D.n + 1 = nx + 1 by omega).trans (if_neg (by simp)).symm, hs, hp1.trans (if_neg (fun h => by have := h.2; have : nx + 1 < c.lo := this; omega)).symm, hh, hq⟩, rfl⟩
   ·have e1 : relook c n ⟨t, 0, sl, nx, pl⟩ M = (⟨t, 0, sl, nx + 1, nx⟩, (reLd c n ⟨t, 0, sl, nx, pl⟩ M).1) := by unfold relook; rw [if_pos hlt, if_neg h0, if_neg hla]
    have e2 : dOn c D = ⟨D.t, D.kind, D.line, D.n + 1, D.slot, D.place, D.now, D.holds, D.count, D.pc, D.push⟩ := by unfold dOn; rw [if_neg (by omega)]
    rw [e1, e2]
    exact ⟨⟨⟨⟨hg1, (by decide : (0 : Int) ≤ 0 ∧ (0 : Int) ≤ 5 ∧ ¬ (0 : Int) = 4), hg3, (by omega : 0 ≤ nx + 1 ∧ nx + 1 ≤ 64), hg4⟩, fun _ => (show nx + 1 < c.lo by omega), fun h => by have h : (0 : Int) = 1 ∨ (0 : Int) = 2 ∨ (0 : Int) = 3 := h; omega⟩,
     ht, hk, hl1, (show D.n + 1 = nx + 1 by omega).trans (if_pos rfl).symm, hs, hp1.trans (rePlace_no (by simp)).symm, hh, hq⟩, rfl⟩
 ·have hlt : pl < c.lo := hy (.inl rfl)
  have hl1 : D.line = 2 := hl
  have hn1 : D.n = pl := hn.trans (if_neg (by simp))
  have hp1 : D.place = -1 := hp.trans (rePlace_no (by simp))
  have e1 : resStep c n nt ⟨t, 1, sl, nx, pl⟩ M = (⟨t, 2, sl, nx, pl⟩, (M.accS n t (logS c t pl) (entryI sl (-1))).1) := by unfold resStep; rw [if_neg (by simp), if_neg (by simp), if_pos rfl]
  have e2 : dRes c n D M = (dLine D 3, (M.accS n t (logS c t pl) (entryI sl (-1))).1) := by unfold dRes; rw [if_neg (by omega), ht, hn1, hs]
  rw [dSres (.inr hl1) hk, e1, e2]
  exact ⟨⟨⟨⟨hg1, (by decide : (0 : Int) ≤ 2 ∧ (2 : Int) ≤ 5 ∧ ¬ (2 : Int) = 4), hg3, hg4, hg5⟩, fun h => absurd (show (2 : Int) = 0 from h) (by decide), fun _ => hlt⟩, ht, hk, rfl, hn1.trans (if_neg (by simp)).symm, hs, hp1.trans (rePlace_no (by simp)).symm, hh, hq⟩, rfl⟩
 ·have hlt : pl < c.lo := hy (.inr (.inl rfl))
  have hl1 : D.line = 3 := hl
  have hn1 : D.n = pl := hn.trans (if_neg (by simp))
  have hp1 : D.place = -1 := hp.trans (rePlace_no (by simp))
  have e1 : resStep c n nt ⟨t, 2, sl, nx, pl⟩ M = (⟨t, 3, sl, nx, pl⟩, (M.accF n nt t (logS c t pl)).1) := by unfold resStep; rw [if_neg (by simp), if_neg (by simp), if_neg (by simp)]; rfl
  have e2 : dLast c n nt D M = (dLine D 4, (M.accF n nt t (logS c t pl)).1) := by unfold dLast; rw [if_pos hl1, ht, hn1]
  rw [dSlast (by omega) (.inl hk), e1, e2]
  exact ⟨⟨⟨⟨hg1, (by decide : (0 : Int) ≤ 3 ∧ (3 : Int) ≤ 5 ∧ ¬ (3 : Int) = 4), hg3, hg4, hg5⟩, fun h => absurd (show (3 : Int) = 0 from h) (by decide), fun _ => hlt⟩, ht, hk, rfl, hn1.trans (if_neg (by simp)).symm, hs, hp1.trans (rePlace_no (by simp)).symm, hh, hq⟩, rfl⟩
 ·have hlt : pl < c.lo := hy (.inr (.inr rfl))
  have hl1 : D.line = 4 := hl
  have hn1 : D.n = pl := hn.trans (if_neg (by simp))
  have e1 : resStep c n nt ⟨t, 3, sl, nx, pl⟩ M = (⟨t, 5, sl, nx, pl⟩, (M.accE nt t).1) := by unfold resStep; rw [if_neg (by simp), if_neg (by simp), if_neg (by simp)]; rfl
  have e2 : dLast c n nt D M = (⟨D.t, D.kind, 0, D.n, D.slot, D.n, D.now, D.holds, D.count, D.pc, D.push⟩, (M.accE nt t).1) := by unfold dLast; rw [if_neg (by omega), ht]
  rw [dSlast (by omega) (.inl hk), e1, e2]
  exact ⟨⟨⟨⟨hg1, (by decide : (0 : Int) ≤ 5 ∧ (5 : Int) ≤ 5 ∧ ¬ (5 : Int) = 4), hg3, hg4, hg5⟩, fun h => absurd (show (5 : Int) = 0 from h) (by decide), fun h => by have h : (5 : Int) = 1 ∨ (5 : Int) = 2 ∨ (5 : Int) = 3 := h; omega⟩, ht, hk, rfl, hn1.trans (if_neg (by simp)).symm, hs, hn1.trans (if_pos ⟨rfl, hlt⟩).symm, hh, hq⟩, rfl⟩
 ·have hl1 : D.line = 0 := hl
  have e1 : resStep c n nt ⟨t, 5, sl, nx, pl⟩ M = (⟨t, 5, sl, nx, pl⟩, M) := if_pos rfl
  rw [dS0 hl1, e1]
  exact ⟨⟨⟨⟨hg1, hg2, hg3, hg4, hg5⟩, hx, hy⟩, ht, hk, hl, hn, hs, hp, hh, hq⟩, rfl⟩
theorem rel_can {S : CanS} (hS : canGood S) (hr : relCan S D) : (canGood (canStep c n S M).1 ∧ relCan (canStep c n S M).1 (dStep c n nt D M).1) ∧ (dStep c n nt D M).2 = (canStep c n S M).2 := by
 obtain ⟨hg, hx⟩ := hS
 obtain ⟨ht, hk, hl, hn, hh, hq⟩ := hr
 obtain ⟨t, pc, pl⟩ := S
 have ht : D.t = t := ht
 have hn : D.n = pl := hn
 obtain ⟨h1, h2, h3⟩ := hg
 rcases hx with h | h
 ·have h : pc = 0 := h
  subst h
  have hl1 : D.line = 1 := hl
  have e1 : canStep c n ⟨t, 0, pl⟩ M = (⟨t, 5, pl⟩, (M.accS n t (logS c t pl) 0).1) := by unfold canStep; rw [if_neg (by simp)]
  rw [dScan (by omega) hk, e1, ht, hn]
  exact ⟨⟨⟨⟨h1, h2, (by decide : (0 : Int) ≤ 5 ∧ (5 : Int) ≤ 5)⟩, .inr rfl⟩, ht, hk, rfl, hn, hh, hq⟩, rfl⟩
 ·have h : pc = 5 := h
  subst h
  have hl1 : D.line = 0 := hl
  have e1 : canStep c n ⟨t, 5, pl⟩ M = (⟨t, 5, pl⟩, M) := if_pos rfl
  rw [dS0 hl1, e1]
  exact ⟨⟨⟨⟨h1, h2, h3⟩, .inr rfl⟩, ht, hk, hl, hn, hh, hq⟩, rfl⟩
theorem rel_sta {S : StaS} (hS : S.good) (hr : relSta S D) : relSta (staStep c n nt S M).1 (dStep c n nt D M).1 ∧ (dStep c n nt D M).2 = (staStep c n nt S M).2 := by
 obtain ⟨hg1, hg2, hg3, hg4, hg5⟩ := hS
 obtain ⟨ht, hk, hl, hn, hs, hw, hh, hq⟩ := hr
 obtain ⟨t, pc, pl, sl, nw⟩ := S
 have hg2 : 0 ≤ pc ∧ pc ≤ 5 ∧ ¬ pc = 4 := hg2
 have ht : D.t = t := ht
 have hs : D.slot = sl := hs
 have hn : D.n = pl := hn
 have hw : D.now = nw := hw
 have h5 : pc = 0 ∨ pc = 1 ∨ pc = 2 ∨ pc = 3 ∨ pc = 5 := by omega
 rcases h5 with rfl | rfl | rfl | rfl | rfl
 ·have hl1 : D.line = 1 := hl
  have e1 : staStep c n nt ⟨t, 0, pl, sl, nw⟩ M = (⟨t, 1, pl, sl, (M.accL n t (-1)).2.old⟩, (M.accL n t (-1)).1) := by unfold staStep; rw [if_neg (by simp), if_pos rfl]
  rw [dSsta1 hl1 hk, e1, ht]
  exact ⟨⟨rfl, hk, rfl, hn, hs, rfl, hh, hq⟩, rfl⟩
 ·have hl1 : D.line = 2 := hl
  have e1 : staStep c n nt ⟨t, 1, pl, sl, nw⟩ M = (⟨t, 2, pl, sl, nw⟩, (M.accS n t (logS c t pl) (entryI sl nw)).1) := by unfold staStep; rw [if_neg (by simp), if_neg (by simp), if_pos rfl]
  rw [dSsta2 hl1 hk, e1, ht, hn, hs, hw]
  exact ⟨⟨ht, hk, rfl, hn, hs, hw, hh, hq⟩, rfl⟩
 ·have hl1 : D.line = 3 := hl
  have e1 : staStep c n nt ⟨t, 2, pl, sl, nw⟩ M = (⟨t, 3, pl, sl, nw⟩, (M.accF n nt t (logS c t pl)).1) := by unfold staStep; rw [if_neg (by simp), if_neg (by simp), if_neg (by simp)]; rfl
  have e2 : dLast c n nt D M = (dLine D 4, (M.accF n nt t (logS c t pl)).1) := by unfold dLast; rw [if_pos hl1, ht, hn]
  rw [dSlast (by omega) (.inr hk), e1, e2]
  exact ⟨⟨ht, hk, rfl, hn, hs, hw, hh, hq⟩, rfl⟩
 ·have hl1 : D.line = 4 := hl
  have e1 : staStep c n nt ⟨t, 3, pl, sl, nw⟩ M = (⟨t, 5, pl, sl, nw⟩, (M.accE nt t).1) := by unfold staStep; rw [if_neg (by simp), if_neg (by simp), if_neg (by simp)]; rfl
  have e2 : dLast c n nt D M = (⟨D.t, D.kind, 0, D.n, D.slot, D.n, D.now, D.holds, D.count, D.pc, D.push⟩, (M.accE nt t).1) := by unfold dLast; rw [if_neg (by omega), ht]
  rw [dSlast (by omega) (.inr hk), e1, e2]
  exact ⟨⟨ht, hk, rfl, hn, hs, hw, hh, hq⟩, rfl⟩
 ·have hl1 : D.line = 0 := hl
  have e1 : staStep c n nt ⟨t, 5, pl, sl, nw⟩ M = (⟨t, 5, pl, sl, nw⟩, M) := if_pos rfl
  rw [dS0 hl1, e1]
  exact ⟨⟨ht, hk, hl, hn, hs, hw, hh, hq⟩, rfl⟩
theorem rel_push {P : PushS} (hp : P.pc = 0 ∨ P.pc = 1 ∨ P.pc = 2) : (dPush c n ⟨P.t, P.pc + 1, P.top, P.slot⟩ M).1 = ⟨(pushStep c n P M).1.t, if (pushStep c n P M).1.pc = 3 then 0 else (pushStep c n P M).1.pc + 1, (pushStep c n P M).1.top, (pushStep c n P M).1.slot⟩ ∧ (dPush c n ⟨P.t, P.pc + 1, P.top, P.slot⟩ M).2 = (pushStep c n P M).2 := by
 obtain ⟨t, pc, top, sl⟩ := P
 have hp : pc = 0 ∨ pc = 1 ∨ pc = 2 := hp
 rcases hp with rfl | rfl | rfl
 ·have e1 : pushStep c n ⟨t, 0, top, sl⟩ M = (⟨t, 1, (M.accL n t (-2)).2.old, sl⟩, (M.accL n t (-2)).1) := by unfold pushStep; rw [if_neg (by simp), if_pos rfl]
  have e2 : dPush c n ⟨t, 0 + 1, top, sl⟩ M = (⟨t, 2, (M.accL n t (-2)).2.old, sl⟩, (M.accL n t (-2)).1) := by unfold dPush; rw [if_pos (by simp)]
  rw [e1, e2]; exact ⟨rfl, rfl⟩
 ·have e1 : pushStep c n ⟨t, 1, top, sl⟩ M = (⟨t, 2, top, sl⟩, (M.accS n t (aftS c sl) (topI (toI top) 0)).1) := by unfold pushStep; rw [if_neg (by simp), if_neg (by simp), if_pos rfl]
  have e2 : dPush c n ⟨t, 1 + 1, top, sl⟩ M = (⟨t, 3, top, sl⟩, (M.accS n t (aftS c sl) (top % 4294967296)).1) := by unfold dPush; rw [if_neg (by simp), if_pos (by simp)]
  rw [e1, e2, top_low]; exact ⟨rfl, rfl⟩
 ·have e1 : pushStep c n ⟨t, 2, top, sl⟩ M = if (M.accW n t (-2) top (newerI sl top)).2.done = true then (⟨t, 3, top, sl⟩, (M.accW n t (-2) top (newerI sl top)).1) else (⟨t, 0, top, sl⟩, (M.accW n t (-2) top (newerI sl top)).1) := by unfold pushStep; rw [if_neg (by simp), if_neg (by simp), if_neg (by simp)]
  have e2 : dPush c n ⟨t, 2 + 1, top, sl⟩ M = if (M.accW n t (-2) top (newerI sl top)).2.done = true then (⟨t, 0, top, sl⟩, (M.accW n t (-2) top (newerI sl top)).1) else (⟨t, 1, top, sl⟩, (M.accW n t (-2) top (newerI sl top)).1) := by unfold dPush; rw [if_neg (by simp), if_neg (by simp), if_pos (by simp)]
  rw [e1, e2]
  split
  ·exact ⟨rfl, rfl⟩
  ·exact ⟨rfl, rfl⟩
theorem lineC_on {x : Int} : lineC (onPc c x) = if x < c.lo then 2 else 0 := by unfold onPc; split; rfl; rfl
theorem onPc_n24 {x : Int} : ¬ (onPc c x = 2 ∨ onPc c x = 4) := by unfold onPc; split <;> omega
theorem recHolds_no {S : RecS} (h : ¬ S.pc = 4) : recHolds S = -1 := if_neg h
theorem onPc_4 {x : Int} : ¬ onPc c x = 4 := fun h => onPc_n24 (.inr h)
theorem rel_rec {S : RecS} (hS : S.good c) (hr : relRec c S D) : relRec c (recStep c n S M).1 (dStep c n nt D M).1 ∧ (dStep c n nt D M).2 = (recStep c n S M).2 := by
 obtain ⟨hg1, hg2, hg3, hg4, hg5, hg6⟩ := hS
 obtain ⟨ht, hk, hl, hn, hw, hh, hq, hs, hp⟩ := hr
 obtain ⟨t, pc, nw, nx, sl, co, pu⟩ := S
 have hg4 : 0 ≤ nx ∧ nx ≤ c.lo := hg4
 have ht : D.t = t := ht
 have hw : D.now = nw := hw
 have hq : D.count = co := hq
 rcases hg6 with ⟨h, h2⟩ | ⟨h, h2⟩ | ⟨h, h2⟩ | ⟨h, h2, h3, h4⟩ | h
 ·have h : pc = 0 := h
  subst h
  have hl1 : D.line = 1 := hl
  have e1 : recStep c n ⟨t, 0, nw, nx, sl, co, pu⟩ M = (⟨t, 1, (M.accL n t (-1)).2.old, nx, sl, co, pu⟩, (M.accL n t (-1)).1) := by unfold recStep; rw [if_neg (by simp), if_pos rfl]
  have e2 : dRec c n D M = (⟨D.t, D.kind, 2, D.n, D.slot, D.place, (M.accL n D.t (-1)).2.old, D.holds, D.count, D.pc, D.push⟩, (M.accL n D.t (-1)).1) := if_pos hl1
  rw [dSrec (by omega) hk, e1, e2, ht]
  exact ⟨⟨rfl, hk, rfl, (hn.trans (if_neg (by simp))).trans (if_neg (by simp)).symm, rfl, (hh.trans (recHolds_no (by simp))).trans (recHolds_no (by simp)).symm, hq, fun h => by have h : (1 : Int) = 2 ∨ (1 : Int) = 4 := h; omega, fun h => absurd (show (1 : Int) = 4 from h) (by decide)⟩, rfl⟩
 ·have h : pc = 1 := h
  subst h
  have h2 : nx < c.lo := h2
  have hl1 : D.line = 2 := hl
  have hn1 : D.n = nx := hn.trans (if_neg (by simp))
  have hh1 : D.holds = -1 := hh.trans (recHolds_no (by simp))
  have eA : dLd c n D M = recLd c n ⟨t, 1, nw, nx, sl, co, pu⟩ M := by unfold dLd recLd; rw [ht, hn1]
  have e1 : recStep c n ⟨t, 1, nw, nx, sl, co, pu⟩ M = recLook c n ⟨t, 1, nw, nx, sl, co, pu⟩ M := by unfold recStep; rw [if_neg (by simp), if_neg (by simp), if_pos rfl]
  have e2 : dRec c n D M = dRec2 c n D M := by unfold dRec; rw [if_neg (by omega), if_pos hl1]
  rw [dSrec (by omega) hk, e1, e2]
  by_cases ho : recOld nw (recLd c n ⟨t, 1, nw, nx, sl, co, pu⟩ M).2.old
  ·have e3 : recLook c n ⟨t, 1, nw, nx, sl, co, pu⟩ M = (⟨t, 2, nw, nx + 1, toI (recLd c n ⟨t, 1, nw, nx, sl, co, pu⟩ M).2.old, co, pu⟩, (recLd c n ⟨t, 1, nw, nx, sl, co, pu⟩ M).1) := if_pos ho
   have e4 : dRec2 c n D M = (⟨D.t, D.kind, 3, D.n, toI (recLd c n ⟨t, 1, nw, nx, sl, co, pu⟩ M).2.old, D.place, D.now, D.holds, D.count, D.pc, D.push⟩, (recLd c n ⟨t, 1, nw, nx, sl, co, pu⟩ M).1) := by unfold dRec2; rw [eA, hw, if_pos ho]
   rw [e3, e4]
   exact ⟨⟨ht, hk, rfl, (show D.n = nx + 1 - 1 by omega).trans (if_pos (.inl rfl)).symm, hw, hh1.trans (recHolds_no (by simp)).symm, hq, fun _ => rfl, fun h => absurd (show (2 : Int) = 4 from h) (by decide)⟩, rfl⟩
  ·have e3 : recLook c n ⟨t, 1, nw, nx, sl, co, pu⟩ M = (⟨t, onPc c (nx + 1), nw, nx + 1, sl, co, pu⟩, (recLd c n ⟨t, 1, nw, nx, sl, co, pu⟩ M).1) := if_neg ho
   have e4 : dRec2 c n D M = (dOn c D, (recLd c n ⟨t, 1, nw, nx, sl, co, pu⟩ M).1) := by unfold dRec2; rw [eA, hw, if_neg ho]
   rw [e3, e4]
   refine ⟨⟨ht, hk, ?_, (show D.n + 1 = nx + 1 by omega).trans (if_neg onPc_n24).symm, hw, hh1.trans (recHolds_no onPc_4).symm, hq, fun h => absurd h onPc_n24, fun h => absurd h onPc_4⟩, rfl⟩
   show (if D.n + 1 = c.lo then 0 else D.line) = lineC (onPc c (nx + 1))
   rw [lineC_on, hl1]
   split <;> split <;> omega
 ·have h : pc = 2 := h
  subst h
  have hl1 : D.line = 3 := hl
  have hn1 : D.n = nx - 1 := hn.trans (if_pos (.inl rfl))
  have hs1 : D.slot = sl := hs (.inl rfl)
  have e1 : recStep c n ⟨t, 2, nw, nx, sl, co, pu⟩ M = (⟨t, 4, nw, nx, sl, co, ⟨t, 0, 0, sl⟩⟩, (M.accS n t (logS c t (nx - 1)) 0).1) := by unfold recStep; rw [if_neg (by simp), if_neg (by simp), if_neg (by simp), if_pos rfl]
  have e2 : dRec c n D M = (⟨D.t, D.kind, 4, D.n, D.slot, D.place, D.now, D.slot, D.count, c, ⟨D.t, 1, 0, D.slot⟩⟩, (M.accS n D.t (logS c D.t D.n) 0).1) := by unfold dRec; rw [if_neg (by omega), if_neg (by omega), if_pos hl1]
  rw [dSrec (by omega) hk, e1, e2, ht, hn1, hs1]
  exact ⟨⟨rfl, hk, rfl, (if_pos (.inr rfl)).symm, hw, (if_pos rfl).symm, hq, fun _ => rfl, fun _ => ⟨rfl, rfl⟩⟩, rfl⟩
 ·have h : pc = 4 := h
  subst h
  have hl1 : D.line = 4 := hl
  have hn1 : D.n = nx - 1 := hn.trans (if_pos (.inr rfl))
  have hs1 : D.slot = sl := hs (.inr rfl)
  have hh1 : D.holds = sl := hh.trans (if_pos rfl)
  obtain ⟨hp1, hp2⟩ := hp rfl
  have hp2 : D.push = ⟨pu.t, pu.pc + 1, pu.top, pu.slot⟩ := hp2
  obtain ⟨r1, r2⟩ := rel_push (c := c) (n := n) (M := M) h4
  have r1 : (dPush c n ⟨pu.t, pu.pc + 1, pu.top, pu.slot⟩ M).1 = ⟨(pushStep c n pu M).1.t, if (pushStep c n pu M).1.pc = 3 then 0 else (pushStep c n pu M).1.pc + 1, (pushStep c n pu M).1.top, (pushStep c n pu M).1.slot⟩ := r1
  have r2 : (dPush c n ⟨pu.t, pu.pc + 1, pu.top, pu.slot⟩ M).2 = (pushStep c n pu M).2 := r2
  have h5 := pushStep_pcs (c := c) (n := n) (M := M) h4
  have h5 : (pushStep c n pu M).1.pc = 0 ∨ (pushStep c n pu M).1.pc = 1 ∨ (pushStep c n pu M).1.pc = 2 ∨ (pushStep c n pu M).1.pc = 3 := h5
  have e1 : recStep c n ⟨t, 4, nw, nx, sl, co, pu⟩ M = (recPush c ⟨t, 4, nw, nx, sl, co, pu⟩ (pushStep c n pu M).1, (pushStep c n pu M).2) := by unfold recStep; rw [if_neg (by simp), if_neg (by simp), if_neg (by simp), if_neg (by simp)]
  rw [dSrec (by omega) hk, e1]
  by_cases hd : (pushStep c n pu M).1.pc = 3
  ·have e3 : recPush c ⟨t, 4, nw, nx, sl, co, pu⟩ (pushStep c n pu M).1 = ⟨t, onPc c nx, nw, nx, sl, co + 1, (pushStep c n pu M).1⟩ := if_pos hd
   have e4 : dRec c n D M = (dOn c ⟨D.t, D.kind, 2, D.n, D.slot, D.place, D.now, -1, D.count + 1, D.pc, (dPush c n D.push M).1⟩, (dPush c n D.push M).2) := by
    unfold dRec
    rw [if_neg (by omega), if_neg (by omega), if_neg (by omega), if_pos (by rw [hp2, r1]; exact if_pos hd)]
   rw [e3, e4, hp2, r2]
   refine ⟨⟨ht, hk, ?_, (show D.n + 1 = nx by omega).trans (if_neg onPc_n24).symm, hw, (recHolds_no onPc_4).symm, (show D.count + 1 = co + 1 by omega), fun h => absurd h onPc_n24, fun h => absurd h onPc_4⟩, rfl⟩
   show (if D.n + 1 = c.lo then 0 else 2) = lineC (onPc c nx)
   rw [lineC_on]
   split <;> split <;> omega
  ·have e3 : recPush c ⟨t, 4, nw, nx, sl, co, pu⟩ (pushStep c n pu M).1 = ⟨t, 4, nw, nx, sl, co, (pushStep c n pu M).1⟩ := if_neg hd
   have e4 : dRec c n D M = (dPut D (dPush c n D.push M).1, (dPush c n D.push M).2) := by
    unfold dRec
    rw [if_neg (by omega), if_neg (by omega), if_neg (by omega), if_neg (by rw [hp2, r1]; show ¬ (if (pushStep c n pu M).1.pc = 3 then (0 : Int) else (pushStep c n pu M).1.pc + 1) = 0; rw [if_neg hd]; omega)]
   rw [e3, e4, hp2, r2, r1, if_neg hd]
   exact ⟨⟨ht, hk, hl1, hn1.trans (if_pos (.inr rfl)).symm, hw, hh1.trans (if_pos rfl).symm, hq, fun _ => hs1, fun _ => ⟨hp1, rfl⟩⟩, rfl⟩
 ·have h : pc = 5 := h
  subst h
  have hl1 : D.line = 0 := hl
  have e1 : recStep c n ⟨t, 5, nw, nx, sl, co, pu⟩ M = (⟨t, 5, nw, nx, sl, co, pu⟩, M) := if_pos rfl
  rw [dS0 hl1, e1]
  exact ⟨⟨ht, hk, hl, hn, hw, hh, hq, hs, hp⟩, rfl⟩
theorem dOn_keep (h : D.ok) : (dOn c D).ok := ⟨h.t, h.slot, h.now, h.pt, h.ps, h.pw⟩
theorem dLine_keep {l : Int} (h : D.ok) : (dLine D l).ok := ⟨h.t, h.slot, h.now, h.pt, h.ps, h.pw⟩
theorem dPush_keep {P : PuD} (hM : M.good) (h1 : isInt P.t) (h2 : isInt P.slot) (h3 : isW P.top) : isInt (dPush c n P M).1.t ∧ isInt (dPush c n P M).1.slot ∧ isW (dPush c n P M).1.top := by
 unfold dPush
 split
 ·exact ⟨h1, h2, (accL_good (n := n) (th := P.t) (i := -2) hM).2⟩
 split
 ·exact ⟨h1, h2, h3⟩
 split
 ·split
  ·exact ⟨h1, h2, h3⟩
  ·exact ⟨h1, h2, h3⟩
 ·exact ⟨h1, h2, h3⟩
theorem dRec_keep (hM : M.good) (h : D.ok) : (dRec c n D M).1.ok := by
 unfold dRec
 split
 ·exact ⟨h.t, h.slot, (accL_good (n := n) (th := D.t) (i := -1) hM).2, h.pt, h.ps, h.pw⟩
 split
 ·unfold dRec2
  split
  ·exact ⟨h.t, toI_int _, h.now, h.pt, h.ps, h.pw⟩
  ·exact dOn_keep h
 split
 ·exact ⟨h.t, h.slot, h.now, h.t, h.slot, (by unfold isW; omega : isW 0)⟩
 have hp := dPush_keep (c := c) (n := n) hM h.pt h.ps h.pw
 split
 ·exact dOn_keep ⟨h.t, h.slot, h.now, hp.1, hp.2.1, hp.2.2⟩
 ·exact ⟨h.t, h.slot, h.now, hp.1, hp.2.1, hp.2.2⟩
theorem dStep_keep (hM : M.good) (h : D.ok) : (dStep c n nt D M).1.ok := by
 unfold dStep
 split
 ·exact h
 split
 ·exact dRec_keep hM h
 split
 ·exact dLine_keep h
 split
 ·unfold dLast
  split
  ·exact dLine_keep h
  ·exact ⟨h.t, h.slot, h.now, h.pt, h.ps, h.pw⟩
 split
 ·unfold dRes
  split
  ·split
   ·exact dLine_keep h
   ·exact dOn_keep h
  ·exact dLine_keep h
 split
 ·exact ⟨h.t, h.slot, (accL_good (n := n) (th := D.t) (i := -1) hM).2, h.pt, h.ps, h.pw⟩
 ·exact dLine_keep h
end
theorem rel_step {c : Cfg} (hc : cfgOk c) {n nt : Nat} {x : MachR} {D : DM} {M : MemM} (hx : x.good c) (hM : M.good) (hr : RelD c x D) : (stepR c n nt x M).1.good c ∧ RelD c (stepR c n nt x M).1 (dStep c n nt D M).1 ∧ (dStep c n nt D M).2 = (stepR c n nt x M).2 := by
 cases x with
 | res S => obtain ⟨⟨h1, h2⟩, h3⟩ := rel_res (n := n) (nt := nt) (M := M) (by unfold cfgOk at hc; omega) hx hr; exact ⟨h1, h2, h3⟩
 | can S => obtain ⟨⟨h1, h2⟩, h3⟩ := rel_can (c := c) (n := n) (nt := nt) (M := M) hx hr; exact ⟨h1, h2, h3⟩
 | sta S => obtain ⟨h2, h3⟩ := rel_sta (c := c) (n := n) (nt := nt) (M := M) hx hr; exact ⟨(staStep_good hx hM).1, h2, h3⟩
 | rc S => obtain ⟨h2, h3⟩ := rel_rec (n := n) (nt := nt) (M := M) hx hr; exact ⟨(recStep_good hc hx hM).1, h2, h3⟩
theorem stepR_good {c : Cfg} (hc : cfgOk c) {n nt : Nat} {x : MachR} {M : MemM} (hx : x.good c) (hM : M.good) : (stepR c n nt x M).2.good := by
 cases x with
 | res S => exact (resStep_good hc hx.1 hM).2
 | can S => exact (canStep_good hx.1 hM).2
 | sta S => exact (staStep_good hx hM).2
 | rc S => exact (recStep_good hc hx hM).2
theorem rel_good {c : Cfg} (hc : cfgOk c) {x : MachR} {D : DM} (hx : x.good c) (hr : RelD c x D) (ho : D.ok) : D.good c := by
 unfold cfgOk at hc
 cases x with
 | res S =>
  obtain ⟨ht, hk, hl, hn, hs, hp, hh, hq⟩ := hr
  obtain ⟨⟨h1, h2, h3, h4, h5⟩, _⟩ := hx
  have hb : 0 ≤ D.n ∧ D.n ≤ 64 := by rw [hn]; split <;> omega
  exact ⟨ho.t, by omega, ho.slot, ho.now, by omega, ho.pt, ho.ps, ho.pw, fun _ => hb, fun h => by omega⟩
 | can S =>
  obtain ⟨ht, hk, hl, hn, hh, hq⟩ := hr
  obtain ⟨⟨h1, h2, h3⟩, _⟩ := hx
  exact ⟨ho.t, by rw [hn]; exact h2, ho.slot, ho.now, by omega, ho.pt, ho.ps, ho.pw, fun h => by omega, fun h => by omega⟩
 | sta S =>
  obtain ⟨ht, hk, hl, hn, hs, hw, hh, hq⟩ := hr
  obtain ⟨h1, h2, h3, h4, h5⟩ := hx
  exact ⟨ho.t, by rw [hn]; exact h3, ho.slot, ho.now, by omega, ho.pt, ho.ps, ho.pw, fun h => by omega, fun h => by omega⟩
 | rc S =>
  obtain ⟨ht, hk, hl, hn, hw, hh, hq, hs, hp⟩ := hr
  obtain ⟨h1, h2, h3, h4, h5, h6⟩ := hx
  have hb : 0 ≤ D.n ∧ D.n ≤ 64 := by rw [hn]; split <;> omega
  refine ⟨ho.t, by omega, ho.slot, ho.now, by omega, ho.pt, ho.ps, ho.pw, fun _ => hb, fun h => ?_⟩
  refine (hp ?_).1
  rcases h6 with h7 | h7 | h7 | h7 | h7
  ·exact absurd (hl.trans (by rw [h7.1]; rfl)) h.2.1
  ·exact absurd (hl.trans (by rw [h7.1]; rfl)) h.2.2.1
  ·exact absurd (hl.trans (by rw [h7.1]; rfl)) h.2.2.2.1
  ·exact h7.1
  ·exact absurd (hl.trans (by rw [h7]; rfl)) h.2.2.2.2
end Go.Proofs.YtkmndplicmaahaaGreat
