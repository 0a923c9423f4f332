import Derived.Test.YtbfafebfkdbglaaGreatFl12
import Derived.Test.YtbfafebfkdbglaaGreatFl9c
/- Layer 12: the document's Reclaim, inside a Take: the plain law. -/
namespace Go.Proofs.YtbfafebfkdbglaaGreat
open Go.RowKit
set_option linter.unusedVariables false
attribute [local irreducible] K.KW K.RW K.DW K.OW K.QR K.KC
theorem toI_ge2 (w : Int) : -1 ≤ toI w ∧ toI w < 4294967295 := by unfold toI; omega
structure PuD where
 t : Int
 line : Int
 top : Int
 slot : Int
structure DM where
 t : Int
 kind : Int
 line : Int
 n : Int
 slot : Int
 place : Int
 now : Int
 holds : Int
 count : Int
 pc : Cfg
 push : PuD
def dOn (c : Cfg) (D : DM) : DM := ⟨D.t, D.kind, if D.n + 1 = c.lo then 0 else D.line, D.n + 1, D.slot, D.place, D.now, D.holds, D.count, D.pc, D.push⟩
def dLd (c : Cfg) (n : Nat) (D : DM) (M : MemM) : MemM × AccM := M.accL n D.t (logS c D.t D.n)
def dPush (c : Cfg) (n : Nat) (P : PuD) (M : MemM) : PuD × MemM :=
 if P.line = 1 then (⟨P.t, 2, (M.accL n P.t (-2)).2.old, P.slot⟩, (M.accL n P.t (-2)).1)
 else if P.line = 2 then (⟨P.t, 3, P.top, P.slot⟩, (M.accS n P.t (aftS c P.slot) (P.top % 4294967296)).1)
 else if P.line = 3 then (if (M.accW n P.t (-2) P.top (newerI P.slot P.top)).2.done = true then (⟨P.t, 0, P.top, P.slot⟩, (M.accW n P.t (-2) P.top (newerI P.slot P.top)).1) else (⟨P.t, 1, P.top, P.slot⟩, (M.accW n P.t (-2) P.top (newerI P.slot P.top)).1))
 else (P, M)
def dPut (D : DM) (P : PuD) : DM := ⟨D.t, D.kind, D.line, D.n, D.slot, D.place, D.now, D.holds, D.count, D.pc, P⟩
def dRec2 (c : Cfg) (n : Nat) (D : DM) (M : MemM) : DM × MemM :=
 if recOld D.now (dLd c n D M).2.old then (⟨D.t, D.kind, 3, D.n, toI (dLd c n D M).2.old, D.place, D.now, D.holds, D.count, D.pc, D.push⟩, (dLd c n D M).1)
 else (dOn c D, (dLd c n D M).1)
def dRec (c : Cfg) (n : Nat) (D : DM) (M : MemM) : DM × MemM :=
 if D.line = 1 then (⟨D.t, D.kind, 2, D.n, D.slot, D.place, (M.accL n D.t (-1)).2.old, D.holds, D.count, D.pc, D.push⟩, (M.accL n D.t (-1)).1)
 else if D.line = 2 then dRec2 c n D M
 else if D.line = 3 then (⟨D.t, D.kind, 4, D.n, D.slot, D.place, D.now, D.slot, D.count, c, ⟨D.t, 1, 0, D.slot⟩⟩, (M.accS n D.t (logS c D.t D.n) 0).1)
 else if (dPush c n D.push M).1.line = 0 then (dOn c ⟨D.t, D.kind, 2, D.n, D.slot, D.place, D.now, -1, D.count + 1, D.pc, (dPush c n D.push M).1⟩, (dPush c n D.push M).2)
 else (dPut D (dPush c n D.push M).1, (dPush c n D.push M).2)
structure DM.good (c : Cfg) (D : DM) : Prop where
 t : isInt D.t
 n : isInt D.n
 slot : isInt D.slot
 now : isW D.now
 cnt : 0 ≤ D.count ∧ D.count ≤ 64
 pt : isInt D.push.t
 ps : isInt D.push.slot
 pw : isW D.push.top
 nb : D.kind = 0 ∨ D.kind = 3 → 0 ≤ D.n ∧ D.n ≤ 64
 pc : D.kind = 3 ∧ ¬ D.line = 1 ∧ ¬ D.line = 2 ∧ ¬ D.line = 3 ∧ ¬ D.line = 0 → D.pc = c
def dStep3 (c : Cfg) (n : Nat) (D : DM) (M : MemM) : DM × MemM := if D.line = 0 then (D, M) else dRec c n D M
def lineC (pc : Int) : Int := if pc = 5 then 0 else if pc = 4 then 4 else pc + 1
structure DM.ok (D : DM) : Prop where
 t : isInt D.t
 slot : isInt D.slot
 now : isW D.now
 pt : isInt D.push.t
 ps : isInt D.push.slot
 pw : isW D.push.top
def relRec (c : Cfg) (S : RecS) (D : DM) : Prop := D.t = S.t ∧ D.kind = 3 ∧ D.line = lineC S.pc ∧ D.n = (if S.pc = 2 ∨ S.pc = 4 then S.next - 1 else S.next) ∧ D.now = S.now ∧ D.holds = recHolds S ∧ D.count = S.count ∧ (S.pc = 2 ∨ S.pc = 4 → D.slot = S.slot) ∧ (S.pc = 4 → D.pc = c ∧ D.push = ⟨S.push.t, S.push.pc + 1, S.push.top, S.push.slot⟩)
section
variable {c : Cfg} {n : Nat} {D : DM} {M : MemM}
theorem dS0 (h : D.line = 0) : dStep3 c n D M = (D, M) := if_pos h
theorem dSrec (h : ¬ D.line = 0) : dStep3 c n D M = dRec c n D M := if_neg h
theorem rel_push {P : PushS} (hp : P.pc = 0 ∨ P.pc = 1 ∨ P.pc = 2) : (dPush c n ⟨P.t, P.pc + 1, P.top, P.slot⟩ M).1 = ⟨(pushStep c n P M).1.t, if (pushStep c n P M).1.pc = 3 then 0 else (pushStep c n P M).1.pc + 1, (pushStep c n P M).1.top, (pushStep c n P M).1.slot⟩ ∧ (dPush c n ⟨P.t, P.pc + 1, P.top, P.slot⟩ M).2 = (pushStep c n P M).2 := by
 obtain ⟨t, pc, top, sl⟩ := P
 have hp : pc = 0 ∨ pc = 1 ∨ pc = 2 := hp
 rcases hp with rfl | rfl | rfl
 ·have e1 : pushStep c n ⟨t, 0, top, sl⟩ M = (⟨t, 1, (M.accL n t (-2)).2.old, sl⟩, (M.accL n t (-2)).1) := by unfold pushStep; rw [if_neg (by simp), if_pos rfl]
  have e2 : dPush c n ⟨t, 0 + 1, top, sl⟩ M = (⟨t, 2, (M.accL n t (-2)).2.old, sl⟩, (M.accL n t (-2)).1) := by unfold dPush; rw [if_pos (by simp)]
  rw [e1, e2]; exact ⟨rfl, rfl⟩
 ·have e1 : pushStep c n ⟨t, 1, top, sl⟩ M = (⟨t, 2, top, sl⟩, (M.accS n t (aftS c sl) (topI (toI top) 0)).1) := by unfold pushStep; rw [if_neg (by simp), if_neg (by simp), if_pos rfl]
  have e2 : dPush c n ⟨t, 1 + 1, top, sl⟩ M = (⟨t, 3, top, sl⟩, (M.accS n t (aftS c sl) (top % 4294967296)).1) := by unfold dPush; rw [if_neg (by simp), if_pos (by simp)]
  rw [e1, e2, top_low]; exact ⟨rfl, rfl⟩
 ·have e1 : pushStep c n ⟨t, 2, top, sl⟩ M = if (M.accW n t (-2) top (newerI sl top)).2.done = true then (⟨t, 3, top, sl⟩, (M.accW n t (-2) top (newerI sl top)).1) else (⟨t, 0, top, sl⟩, (M.accW n t (-2) top (newerI sl top)).1) := by unfold pushStep; rw [if_neg (by simp), if_neg (by simp), if_neg (by simp)]
  have e2 : dPush c n ⟨t, 2 + 1, top, sl⟩ M = if (M.accW n t (-2) top (newerI sl top)).2.done = true then (⟨t, 0, top, sl⟩, (M.accW n t (-2) top (newerI sl top)).1) else (⟨t, 1, top, sl⟩, (M.accW n t (-2) top (newerI sl top)).1) := by unfold dPush; rw [if_neg (by simp), if_neg (by simp), if_pos (by simp)]
  rw [e1, e2]
  split
  ·exact ⟨rfl, rfl⟩
  ·exact ⟨rfl, rfl⟩
theorem lineC_on {x : Int} : lineC (onPc c x) = if x < c.lo then 2 else 0 := by unfold onPc; split; rfl; rfl
theorem onPc_n24 {x : Int} : ¬ (onPc c x = 2 ∨ onPc c x = 4) := by unfold onPc; split <;> omega
theorem recHolds_no {S : RecS} (h : ¬ S.pc = 4) : recHolds S = -1 := if_neg h
theorem rel_rec {S : RecS} (hS : S.good c) (hr : relRec c S D) : relRec c (recStep c n S M).1 (dStep3 c n D M).1 ∧ (dStep3 c n D M).2 = (recStep c n S M).2 := by
 obtain ⟨hg1, hg2, hg3, hg4, hg5, hg6⟩ := hS
 obtain ⟨ht, hk, hl, hn, hw, hh, hq, hs, hp⟩ := hr
 obtain ⟨t, pc, nw, nx, sl, co, pu⟩ := S
 have hg4 : 0 ≤ nx ∧ nx ≤ c.lo := hg4
 have ht : D.t = t := ht
 have hw : D.now = nw := hw
 have hq : D.count = co := hq
 rcases hg6 with ⟨h, h2⟩ | ⟨h, h2⟩ | ⟨h, h2⟩ | ⟨h, h2, h3, h4⟩ | h
 ·have h : pc = 0 := h
  subst h
  have hl1 : D.line = 1 := hl
  have e1 : recStep c n ⟨t, 0, nw, nx, sl, co, pu⟩ M = (⟨t, 1, (M.accL n t (-1)).2.old, nx, sl, co, pu⟩, (M.accL n t (-1)).1) := by unfold recStep; rw [if_neg (by simp), if_pos rfl]
  have e2 : dRec c n D M = (⟨D.t, D.kind, 2, D.n, D.slot, D.place, (M.accL n D.t (-1)).2.old, D.holds, D.count, D.pc, D.push⟩, (M.accL n D.t (-1)).1) := if_pos hl1
  rw [dSrec (by omega), e1, e2, ht]
  exact ⟨⟨rfl, hk, rfl, (hn.trans (if_neg (by simp))).trans (if_neg (by simp)).symm, rfl, (hh.trans (recHolds_no (by simp))).trans (recHolds_no (by simp)).symm, hq, fun h => by have h : (1 : Int) = 2 ∨ (1 : Int) = 4 := h; omega, fun h => absurd (show (1 : Int) = 4 from h) (by decide)⟩, rfl⟩
 ·have h : pc = 1 := h
  subst h
  have h2 : nx < c.lo := h2
  have hl1 : D.line = 2 := hl
  have hn1 : D.n = nx := hn.trans (if_neg (by simp))
  have hh1 : D.holds = -1 := hh.trans (recHolds_no (by simp))
  have eA : dLd c n D M = recLd c n ⟨t, 1, nw, nx, sl, co, pu⟩ M := by unfold dLd recLd; rw [ht, hn1]
  have e1 : recStep c n ⟨t, 1, nw, nx, sl, co, pu⟩ M = recLook c n ⟨t, 1, nw, nx, sl, co, pu⟩ M := by unfold recStep; rw [if_neg (by simp), if_neg (by simp), if_pos rfl]
  have e2 : dRec c n D M = dRec2 c n D M := by unfold dRec; rw [if_neg (by omega), if_pos hl1]
  rw [dSrec (by omega), e1, e2]
  by_cases ho : recOld nw (recLd c n ⟨t, 1, nw, nx, sl, co, pu⟩ M).2.old
  ·have e3 : recLook c n ⟨t, 1, nw, nx, sl, co, pu⟩ M = (⟨t, 2, nw, nx + 1, toI (recLd c n ⟨t, 1, nw, nx, sl, co, pu⟩ M).2.old, co, pu⟩, (recLd c n ⟨t, 1, nw, nx, sl, co, pu⟩ M).1) := if_pos ho
   have e4 : dRec2 c n D M = (⟨D.t, D.kind, 3, D.n, toI (recLd c n ⟨t, 1, nw, nx, sl, co, pu⟩ M).2.old, D.place, D.now, D.holds, D.count, D.pc, D.push⟩, (recLd c n ⟨t, 1, nw, nx, sl, co, pu⟩ M).1) := by unfold dRec2; rw [eA, hw, if_pos ho]
   rw [e3, e4]
   exact ⟨⟨ht, hk, rfl, (show D.n = nx + 1 - 1 by omega).trans (if_pos (.inl rfl)).symm, hw, hh1.trans (recHolds_no (by simp)).symm, hq, fun _ => rfl, fun h => absurd (show (2 : Int) = 4 from h) (by decide)⟩, rfl⟩
  ·have e3 : recLook c n ⟨t, 1, nw, nx, sl, co, pu⟩ M = (⟨t, onPc c (nx + 1), nw, nx + 1, sl, co, pu⟩, (recLd c n ⟨t, 1, nw, nx, sl, co, pu⟩ M).1) := if_neg ho
   have e4 : dRec2 c n D M = (dOn c D, (recLd c n ⟨t, 1, nw, nx, sl, co, pu⟩ M).1) := by unfold dRec2; rw [eA, hw, if_neg ho]
   rw [e3, e4]
   refine ⟨⟨ht, hk, ?_, (show D.n + 1 = nx + 1 by omega).trans (if_neg onPc_n24).symm, hw, hh1.trans (recHolds_no onPc_4).symm, hq, fun h => absurd h onPc_n24, fun h => absurd h onPc_4⟩, rfl⟩
   show (if D.n + 1 = c.lo then 0 else D.line) = lineC (onPc c (nx + 1))
   rw [lineC_on, hl1]
   split <;> split <;> omega
 ·have h : pc = 2 := h
  subst h
  have hl1 : D.line = 3 := hl
  have hn1 : D.n = nx - 1 := hn.trans (if_pos (.inl rfl))
  have hs1 : D.slot = sl := hs (.inl rfl)
  have e1 : recStep c n ⟨t, 2, nw, nx, sl, co, pu⟩ M = (⟨t, 4, nw, nx, sl, co, ⟨t, 0, 0, sl⟩⟩, (M.accS n t (logS c t (nx - 1)) 0).1) := by unfold recStep; rw [if_neg (by simp), if_neg (by simp), if_neg (by simp), if_pos rfl]
  have e2 : dRec c n D M = (⟨D.t, D.kind, 4, D.n, D.slot, D.place, D.now, D.slot, D.count, c, ⟨D.t, 1, 0, D.slot⟩⟩, (M.accS n D.t (logS c D.t D.n) 0).1) := by unfold dRec; rw [if_neg (by omega), if_neg (by omega), if_pos hl1]
  rw [dSrec (by omega), e1, e2, ht, hn1, hs1]
  exact ⟨⟨rfl, hk, rfl, (if_pos (.inr rfl)).symm, hw, (if_pos rfl).symm, hq, fun _ => rfl, fun _ => ⟨rfl, rfl⟩⟩, rfl⟩
 ·have h : pc = 4 := h
  subst h
  have hl1 : D.line = 4 := hl
  have hn1 : D.n = nx - 1 := hn.trans (if_pos (.inr rfl))
  have hs1 : D.slot = sl := hs (.inr rfl)
  have hh1 : D.holds = sl := hh.trans (if_pos rfl)
  obtain ⟨hp1, hp2⟩ := hp rfl
  have hp2 : D.push = ⟨pu.t, pu.pc + 1, pu.top, pu.slot⟩ := hp2
  obtain ⟨r1, r2⟩ := rel_push (c := c) (n := n) (M := M) h4
  have r1 : (dPush c n ⟨pu.t, pu.pc + 1, pu.top, pu.slot⟩ M).1 = ⟨(pushStep c n pu M).1.t, if (pushStep c n pu M).1.pc = 3 then 0 else (pushStep c n pu M).1.pc + 1, (pushStep c n pu M).1.top, (pushStep c n pu M).1.slot⟩ := r1
  have r2 : (dPush c n ⟨pu.t, pu.pc + 1, pu.top, pu.slot⟩ M).2 = (pushStep c n pu M).2 := r2
  have h5 := pushStep_pcs (c := c) (n := n) (M := M) h4
  have h5 : (pushStep c n pu M).1.pc = 0 ∨ (pushStep c n pu M).1.pc = 1 ∨ (pushStep c n pu M).1.pc = 2 ∨ (pushStep c n pu M).1.pc = 3 := h5
  have e1 : recStep c n ⟨t, 4, nw, nx, sl, co, pu⟩ M = (recPush c ⟨t, 4, nw, nx, sl, co, pu⟩ (pushStep c n pu M).1, (pushStep c n pu M).2) := by unfold recStep; rw [if_neg (by simp), if_neg (by simp), if_neg (by simp), if_neg (by simp)]
  rw [dSrec (by omega), e1]
  by_cases hd : (pushStep c n pu M).1.pc = 3
  ·have e3 : recPush c ⟨t, 4, nw, nx, sl, co, pu⟩ (pushStep c n pu M).1 = ⟨t, onPc c nx, nw, nx, sl, co + 1, (pushStep c n pu M).1⟩ := if_pos hd
   have e4 : dRec c n D M = (dOn c ⟨D.t, D.kind, 2, D.n, D.slot, D.place, D.now, -1, D.count + 1, D.pc, (dPush c n D.push M).1⟩, (dPush c n D.push M).2) := by
    unfold dRec
    rw [if_neg (by omega), if_neg (by omega), if_neg (by omega), if_pos (by rw [hp2, r1]; exact if_pos hd)]
   rw [e3, e4, hp2, r2]
   refine ⟨⟨ht, hk, ?_, (show D.n + 1 = nx by omega).trans (if_neg onPc_n24).symm, hw, (recHolds_no onPc_4).symm, (show D.count + 1 = co + 1 by omega), fun h => absurd h onPc_n24, fun h => absurd h onPc_4⟩, rfl⟩
   show (if D.n + 1 = c.lo then 0 else 2) = lineC (onPc c nx)
   rw [lineC_on]
   split <;> split <;> omega
  ·have e3 : recPush c ⟨t, 4, nw, nx, sl, co, pu⟩ (pushStep c n pu M).1 = ⟨t, 4, nw, nx, sl, co, (pushStep c n pu M).1⟩ := if_neg hd
   have e4 : dRec c n D M = (dPut D (dPush c n D.push M).1, (dPush c n D.push M).2) := by
    unfold dRec
    rw [if_neg (by omega), if_neg (by omega), if_neg (by omega), if_neg (by rw [hp2, r1]; show ¬ (if (pushStep c n pu M).1.pc = 3 then (0 : Int) else (pushStep c n pu M).1.pc + 1) = 0; rw [if_neg hd]; omega)]
   rw [e3, e4, hp2, r2, r1, if_neg hd]
   exact ⟨⟨ht, hk, hl1, hn1.trans (if_pos (.inr rfl)).symm, hw, hh1.trans (if_pos rfl).symm, hq, fun _ => hs1, fun _ => ⟨hp1, rfl⟩⟩, rfl⟩
 ·have h : pc = 5 := h
  subst h
  have hl1 : D.line = 0 := hl
  have e1 : recStep c n ⟨t, 5, nw, nx, sl, co, pu⟩ M = (⟨t, 5, nw, nx, sl, co, pu⟩, M) := if_pos rfl
  rw [dS0 hl1, e1]
  exact ⟨⟨ht, hk, hl, hn, hw, hh, hq, hs, hp⟩, rfl⟩
theorem dOn_keep (h : D.ok) : (dOn c D).ok := ⟨h.t, h.slot, h.now, h.pt, h.ps, h.pw⟩
theorem dPush_keep {P : PuD} (hM : M.good) (h1 : isInt P.t) (h2 : isInt P.slot) (h3 : isW P.top) : isInt (dPush c n P M).1.t ∧ isInt (dPush c n P M).1.slot ∧ isW (dPush c n P M).1.top := by
 unfold dPush
 split
 ·exact ⟨h1, h2, (accL_good (n := n) (th := P.t) (i := -2) hM).2⟩
 split
 ·exact ⟨h1, h2, h3⟩
 split
 ·split
  ·exact ⟨h1, h2, h3⟩
  ·exact ⟨h1, h2, h3⟩
 ·exact ⟨h1, h2, h3⟩
theorem dRec_keep (hM : M.good) (h : D.ok) : (dRec c n D M).1.ok := by
 unfold dRec
 split
 ·exact ⟨h.t, h.slot, (accL_good (n := n) (th := D.t) (i := -1) hM).2, h.pt, h.ps, h.pw⟩
 split
 ·unfold dRec2
  split
  ·exact ⟨h.t, toI_int _, h.now, h.pt, h.ps, h.pw⟩
  ·exact dOn_keep h
 split
 ·exact ⟨h.t, h.slot, h.now, h.t, h.slot, (by unfold isW; omega : isW 0)⟩
 have hp := dPush_keep (c := c) (n := n) hM h.pt h.ps h.pw
 split
 ·exact dOn_keep ⟨h.t, h.slot, h.now, hp.1, hp.2.1, hp.2.2⟩
 ·exact ⟨h.t, h.slot, h.now, hp.1, hp.2.1, hp.2.2⟩
theorem dStep3_keep (hM : M.good) (h : D.ok) : (dStep3 c n D M).1.ok := by
 unfold dStep3
 split
 ·exact h
 ·exact dRec_keep hM h
end
theorem lineC_0 {l pc : Int} (h : l = lineC pc) (hp : 0 ≤ pc) : (l = 0 ∧ pc = 5) ∨ (¬ l = 0 ∧ ¬ pc = 5) := by
 unfold lineC at h
 split at h
 ·exact .inl ⟨h, by assumption⟩
 ·split at h
  ·exact .inr ⟨by omega, by assumption⟩
  ·exact .inr ⟨by omega, by assumption⟩
theorem rec_pc0 {c : Cfg} {S : RecS} (h : S.good c) : 0 ≤ S.pc := by
 rcases h.2.2.2.2.2 with h | h | h | h | h <;> omega
theorem rec_dgood {c : Cfg} (hc : cfgOk c) {S : RecS} {D : DM} (hx : S.good c) (hr : relRec c S D) (ho : D.ok) : D.good c := by
 unfold cfgOk at hc
 obtain ⟨ht, hk, hl, hn, hw, hh, hq, hs, hp⟩ := hr
 obtain ⟨h1, h2, h3, h4, h5, h6⟩ := hx
 have hb : 0 ≤ D.n ∧ D.n ≤ 64 := by rw [hn]; split <;> omega
 refine ⟨ho.t, by omega, ho.slot, ho.now, by omega, ho.pt, ho.ps, ho.pw, fun _ => hb, fun h => ?_⟩
 refine (hp ?_).1
 rcases h6 with h7 | h7 | h7 | h7 | h7
 ·exact absurd (hl.trans (by rw [h7.1]; rfl)) h.2.1
 ·exact absurd (hl.trans (by rw [h7.1]; rfl)) h.2.2.1
 ·exact absurd (hl.trans (by rw [h7.1]; rfl)) h.2.2.2.1
 ·exact h7.1
 ·exact absurd (hl.trans (by rw [h7]; rfl)) h.2.2.2.2
theorem rec_line {c : Cfg} {S : RecS} {D : DM} (hx : S.good c) (hr : relRec c S D) : (S.pc = 5 → D.line = 0) ∧ (¬ S.pc = 5 → ¬ D.line = 0) := by
 have h := lineC_0 hr.2.2.1 (rec_pc0 hx)
 exact ⟨fun e => by omega, fun e => by omega⟩
def dm0 (t : Int) : DM := ⟨t, 3, 1, 0, 0, -1, 0, -1, 0, ⟨0, 0, 0, 0⟩, ⟨0, 0, 0, 0⟩⟩
theorem dm0_rel {c : Cfg} {t : Int} : relRec c (tkRec0 t) (dm0 t) := ⟨rfl, rfl, rfl, rfl, rfl, rfl, rfl, fun h => by have h : (0 : Int) = 2 ∨ (0 : Int) = 4 := h; omega, fun h => by have h : (0 : Int) = 4 := h; omega⟩
theorem dm0_ok {t : Int} (h : isInt t) : (dm0 t).ok := ⟨h, by show isInt 0; omega, isW00, by show isInt 0; omega, by show isInt 0; omega, isW00⟩
end Go.Proofs.YtbfafebfkdbglaaGreat
