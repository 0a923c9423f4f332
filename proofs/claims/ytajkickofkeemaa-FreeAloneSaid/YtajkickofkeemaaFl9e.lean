/- Layer 9: a Pop and a Push alone: the plain law. -/
import Derived.Test.YtajkickofkeemaaFl9d
namespace Go.Proofs.Ytajkickofkeemaa
open Go.RowKit
set_option linter.unusedVariables false
attribute [local irreducible] K.KW K.RW K.DW K.OW K.QR K.KC
def popIt (c : Cfg) (n : Nat) (S : PopS) (M : MemM) : Nat → PopS × MemM
 | 0 => (S, M)
 | i + 1 => popStep c n (popIt c n S M i).1 (popIt c n S M i).2
def pushIt (c : Cfg) (n : Nat) (S : PushS) (M : MemM) : Nat → PushS × MemM
 | 0 => (S, M)
 | i + 1 => pushStep c n (pushIt c n S M i).1 (pushIt c n S M i).2
theorem popIt_good {c : Cfg} {n : Nat} {S : PopS} {M : MemM} (hS : S.good) (hM : M.good) : ∀ i, (popIt c n S M i).1.good ∧ (popIt c n S M i).2.good
 | 0 => ⟨hS, hM⟩
 | i + 1 => popStep_good (popIt_good hS hM i).1 (popIt_good hS hM i).2
theorem pushIt_good {c : Cfg} {n : Nat} {S : PushS} {M : MemM} (hS : S.good) (hM : M.good) : ∀ i, (pushIt c n S M i).1.good ∧ (pushIt c n S M i).2.good
 | 0 => ⟨hS, hM⟩
 | i + 1 => pushStep_good (pushIt_good hS hM i).1 (pushIt_good hS hM i).2
theorem popIt_pass {c : Cfg} {n : Nat} {S : PopS} {M : MemM} : ∀ i, (popIt c n S M i).2.pass.length = M.pass.length
 | 0 => rfl
 | i + 1 => popStep_pass.trans (popIt_pass i)
theorem pushIt_pass {c : Cfg} {n : Nat} {S : PushS} {M : MemM} : ∀ i, (pushIt c n S M i).2.pass.length = M.pass.length
 | 0 => rfl
 | i + 1 => pushStep_pass.trans (pushIt_pass i)
theorem popIt_done {c : Cfg} {n : Nat} {S : PopS} {M : MemM} {i : Nat} (h : (popIt c n S M i).1.pc = 3) : ∀ k, popIt c n S M (i + k) = popIt c n S M i
 | 0 => rfl
 | k + 1 => by
  show popStep c n (popIt c n S M (i + k)).1 (popIt c n S M (i + k)).2 = _
  rw [popIt_done h k]; unfold popStep; rw [if_pos h]
theorem pushIt_done {c : Cfg} {n : Nat} {S : PushS} {M : MemM} {i : Nat} (h : (pushIt c n S M i).1.pc = 3) : ∀ k, pushIt c n S M (i + k) = pushIt c n S M i
 | 0 => rfl
 | k + 1 => by
  show pushStep c n (pushIt c n S M (i + k)).1 (pushIt c n S M (i + k)).2 = _
  rw [pushIt_done h k]; unfold pushStep; rw [if_pos h]
theorem toI_topI {x v : Int} (h : -1 ≤ x ∧ x < 4294967295) : toI (topI x v) = x := by unfold toI topI; omega
theorem toI_newer {x w : Int} (h : -1 ≤ x ∧ x < 4294967295) : toI (newerI x w) = x := toI_topI h
theorem toI_lt (w : Int) : toI w < 4294967295 := by unfold toI; omega
theorem clkL {M : MemM} {n : Nat} {th i : Int} : (M.accL n th i).1.clock = i64s M.clock := rfl
theorem clkS {M : MemM} {n : Nat} {th i w : Int} : (M.accS n th i w).1.clock = i64s M.clock := by
 show i64s (if (M.peek n i).isSome then M.put i w else M).clock = _
 split
 ·unfold MemM.put; split <;> rfl
 ·rfl
theorem clkW {M : MemM} {n : Nat} {th i old w : Int} : (M.accW n th i old w).1.clock = i64s M.clock := by
 show i64s (if (M.peek n i == some old) = true then M.put i w else M).clock = _
 split
 ·unfold MemM.put; split <;> rfl
 ·rfl
theorem i64s_lt {x : Int} (h : 0 ≤ x ∧ x ≤ 1000000) : i64s x = x + 1 := by unfold i64s; exact IntWalk.i64_in _ (by omega)
theorem pop_none {c : Cfg} {n : Nat} {t w : Int} {M : MemM} (hp : M.peek n (-2) = some w) (h : toI w = -1) (hcl : 0 ≤ M.clock ∧ M.clock ≤ 1000) :
  (popIt c n ⟨t, 0, 0, 0, -1⟩ M 9).1.pc = 3 ∧ (popIt c n ⟨t, 0, 0, 0, -1⟩ M 9).1.slot = -1 ∧ (popIt c n ⟨t, 0, 0, 0, -1⟩ M 9).2.clock = M.clock + 1 := by
 have ho : (M.accL n t (-2)).2.old = w := by show (M.peek n (-2)).getD 0 = w; rw [hp]; rfl
 have e1 : popIt c n ⟨t, 0, 0, 0, -1⟩ M 1 = (⟨t, 3, w, 0, -1⟩, (M.accL n t (-2)).1) := by
  show popStep c n ⟨t, 0, 0, 0, -1⟩ M = _
  unfold popStep
  rw [if_neg (by show ¬ (0 : Int) = 3; decide), if_pos rfl]
  simp only [ho]
  rw [if_pos h]
 have e9 := popIt_done (c := c) (n := n) (S := ⟨t, 0, 0, 0, -1⟩) (M := M) (i := 1) (by rw [e1]) 8
 rw [e9, e1]
 exact ⟨rfl, rfl, by show i64s M.clock = _; exact i64s_lt (by omega)⟩
theorem pop_one {c : Cfg} {n : Nat} {t w nx : Int} {M : MemM} (hth : 1 ≤ c.th) (hp : M.peek n (-2) = some w) (h : 0 ≤ toI w ∧ toI w < c.sl) (hx : M.peek n (-3 - c.th - toI w) = some nx) (hcl : 0 ≤ M.clock ∧ M.clock ≤ 1000) :
  (popIt c n ⟨t, 0, 0, 0, -1⟩ M 9).1.pc = 3 ∧ (popIt c n ⟨t, 0, 0, 0, -1⟩ M 9).1.slot = toI w ∧ (popIt c n ⟨t, 0, 0, 0, -1⟩ M 9).2.clock = M.clock + 3 ∧ (popIt c n ⟨t, 0, 0, 0, -1⟩ M 9).2.peek n (-2) = some (newerI (toI nx) w) ∧ ∀ i, i ≠ -2 → (popIt c n ⟨t, 0, 0, 0, -1⟩ M 9).2.peek n i = M.peek n i := by
 have ho : (M.accL n t (-2)).2.old = w := by show (M.peek n (-2)).getD 0 = w; rw [hp]; rfl
 have e1 : popIt c n ⟨t, 0, 0, 0, -1⟩ M 1 = (⟨t, 1, w, 0, -1⟩, (M.accL n t (-2)).1) := by
  show popStep c n ⟨t, 0, 0, 0, -1⟩ M = _
  unfold popStep
  rw [if_neg (by show ¬ (0 : Int) = 3; decide), if_pos rfl]
  simp only [ho]
  rw [if_neg (by omega)]
 have hat : aftS c (toI w) = -3 - c.th - toI w := by unfold aftS; rw [if_pos h]
 have e2 : popIt c n ⟨t, 0, 0, 0, -1⟩ M 2 = (⟨t, 2, w, nx, -1⟩, ((M.accL n t (-2)).1.accL n t (-3 - c.th - toI w)).1) := by
  show popStep c n (popIt c n _ M 1).1 (popIt c n _ M 1).2 = _
  rw [e1]
  unfold popStep
  rw [if_neg (by show ¬ (1 : Int) = 3; decide), if_neg (by show ¬ (1 : Int) = 0; decide), if_pos rfl]
  simp only [hat]
  rw [show ((M.accL n t (-2)).1.accL n t (-3 - c.th - toI w)).2.old = nx by show (M.peek n (-3 - c.th - toI w)).getD 0 = nx; rw [hx]; rfl]
 have hd : (((M.accL n t (-2)).1.accL n t (-3 - c.th - toI w)).1.accW n t (-2) w (newerI (toI nx) w)).2.done = true := by
  show (M.peek n (-2) == some w) = true; rw [hp]; simp
 have e3 : popIt c n ⟨t, 0, 0, 0, -1⟩ M 3 = (⟨t, 3, w, nx, toI w⟩, (((M.accL n t (-2)).1.accL n t (-3 - c.th - toI w)).1.accW n t (-2) w (newerI (toI nx) w)).1) := by
  show popStep c n (popIt c n _ M 2).1 (popIt c n _ M 2).2 = _
  rw [e2]
  unfold popStep
  rw [if_neg (by show ¬ (2 : Int) = 3; decide), if_neg (by show ¬ (2 : Int) = 0; decide), if_neg (by show ¬ (2 : Int) = 1; decide), if_pos hd]
 have e9 := popIt_done (c := c) (n := n) (S := ⟨t, 0, 0, 0, -1⟩) (M := M) (i := 3) (by rw [e3]) 6
 rw [e9, e3]
 refine ⟨rfl, rfl, ?_, ?_, fun i hi => ?_⟩
 ·show (MemM.accW _ n t (-2) w _).1.clock = _
  rw [clkW, clkL, clkL, i64s_lt (x := M.clock) (by omega), i64s_lt (x := M.clock + 1) (by omega), i64s_lt (x := M.clock + 1 + 1) (by omega)]; omega
 ·show (MemM.accW _ n t (-2) w _).1.peek n (-2) = _
  rw [accW_peek (by omega), if_pos ⟨rfl, hp⟩]
 ·show (MemM.accW _ n t (-2) w _).1.peek n i = _
  rw [accW_peek (by omega), if_neg (fun h => hi h.1)]; rfl
theorem push_one {c : Cfg} {n : Nat} {t w s : Int} {M : MemM} (hth : 1 ≤ c.th) (hpl : (M.pass.length : Int) = 2 + c.th + c.sl) (hp : M.peek n (-2) = some w) (h : 0 ≤ s ∧ s < c.sl) (hcl : 0 ≤ M.clock ∧ M.clock ≤ 1000) :
  (pushIt c n ⟨t, 0, 0, s⟩ M 9).1.pc = 3 ∧ (pushIt c n ⟨t, 0, 0, s⟩ M 9).2.clock = M.clock + 3 ∧ (pushIt c n ⟨t, 0, 0, s⟩ M 9).2.peek n (-2) = some (newerI s w) ∧ (pushIt c n ⟨t, 0, 0, s⟩ M 9).2.peek n (-3 - c.th - s) = some (topI (toI w) 0) ∧ ∀ i, i ≠ -2 → i ≠ -3 - c.th - s → (pushIt c n ⟨t, 0, 0, s⟩ M 9).2.peek n i = M.peek n i := by
 have ho : (M.accL n t (-2)).2.old = w := by show (M.peek n (-2)).getD 0 = w; rw [hp]; rfl
 have e1 : pushIt c n ⟨t, 0, 0, s⟩ M 1 = (⟨t, 1, w, s⟩, (M.accL n t (-2)).1) := by
  show pushStep c n ⟨t, 0, 0, s⟩ M = _
  unfold pushStep
  rw [if_neg (by show ¬ (0 : Int) = 3; decide), if_pos rfl]
  simp only [ho]
 have hat : aftS c s = -3 - c.th - s := by unfold aftS; rw [if_pos h]
 have e2 : pushIt c n ⟨t, 0, 0, s⟩ M 2 = (⟨t, 2, w, s⟩, ((M.accL n t (-2)).1.accS n t (-3 - c.th - s) (topI (toI w) 0)).1) := by
  show pushStep c n (pushIt c n _ M 1).1 (pushIt c n _ M 1).2 = _
  rw [e1]
  unfold pushStep
  rw [if_neg (by show ¬ (1 : Int) = 3; decide), if_neg (by show ¬ (1 : Int) = 0; decide), if_pos rfl]
  simp only [hat]
 have pk : ∀ i : Int, ((M.accL n t (-2)).1.accS n t (-3 - c.th - s) (topI (toI w) 0)).1.peek n i = if i = -3 - c.th - s then some (topI (toI w) 0) else M.peek n i := fun i => by
  rw [accS_peek (by omega)]
  by_cases hi : i = -3 - c.th - s
  ·rw [if_pos ⟨hi, by show -1 - (-3 - c.th - s) < (M.pass.length : Int); omega⟩, if_pos hi]
  ·rw [if_neg (fun h => hi h.1), if_neg hi]; rfl
 have hd : (((M.accL n t (-2)).1.accS n t (-3 - c.th - s) (topI (toI w) 0)).1.accW n t (-2) w (newerI s w)).2.done = true := by
  show (((M.accL n t (-2)).1.accS n t (-3 - c.th - s) (topI (toI w) 0)).1.peek n (-2) == some w) = true
  rw [pk, if_neg (by omega), hp]; simp
 have e3 : pushIt c n ⟨t, 0, 0, s⟩ M 3 = (⟨t, 3, w, s⟩, (((M.accL n t (-2)).1.accS n t (-3 - c.th - s) (topI (toI w) 0)).1.accW n t (-2) w (newerI s w)).1) := by
  show pushStep c n (pushIt c n _ M 2).1 (pushIt c n _ M 2).2 = _
  rw [e2]
  unfold pushStep
  rw [if_neg (by show ¬ (2 : Int) = 3; decide), if_neg (by show ¬ (2 : Int) = 0; decide), if_neg (by show ¬ (2 : Int) = 1; decide), if_pos hd]
 have e9 := pushIt_done (c := c) (n := n) (S := ⟨t, 0, 0, s⟩) (M := M) (i := 3) (by rw [e3]) 6
 rw [e9, e3]
 have pw : ∀ i : Int, (((M.accL n t (-2)).1.accS n t (-3 - c.th - s) (topI (toI w) 0)).1.accW n t (-2) w (newerI s w)).1.peek n i = if i = -2 then some (newerI s w) else if i = -3 - c.th - s then some (topI (toI w) 0) else M.peek n i := fun i => by
  rw [accW_peek (by omega)]
  by_cases hi : i = -2
  ·rw [if_pos ⟨hi, by rw [pk, if_neg (by omega)]; exact hp⟩, if_pos hi]
  ·rw [if_neg (fun h => hi h.1), if_neg hi, pk]
 refine ⟨rfl, ?_, ?_, ?_, fun i hi hi2 => ?_⟩
 ·show (MemM.accW _ n t (-2) w _).1.clock = _
  rw [clkW, clkS, clkL, i64s_lt (x := M.clock) (by omega), i64s_lt (x := M.clock + 1) (by omega), i64s_lt (x := M.clock + 1 + 1) (by omega)]; omega
 ·show (MemM.accW _ n t (-2) w _).1.peek n (-2) = _
  rw [pw, if_pos rfl]
 ·show (MemM.accW _ n t (-2) w _).1.peek n _ = _
  rw [pw, if_neg (by omega), if_pos rfl]
 ·show (MemM.accW _ n t (-2) w _).1.peek n i = _
  rw [pw, if_neg hi, if_neg hi2]
/-- a ground of which the slots 0, 1, .. are free -/
structure FGround (c : Cfg) (n : Nat) (m : Nat) (M : MemM) : Prop where
 good : M.good
 pl : (M.pass.length : Int) = 2 + c.th + c.sl
 cl : M.clock = m
 tp : ∃ w, M.peek n (-2) = some w ∧ 0 ≤ w ∧ w < 4294967296
 af : ∀ s : Int, 0 ≤ s → s < c.sl → ∃ w, M.peek n (-3 - c.th - s) = some w
 ch : ChainF (aftW c n M) (topW n M) (rangeI m)
theorem fground {c : Cfg} {n t k m : Nat} (hk : (k : Int) = 2 + c.th + c.sl) (hth : 1 ≤ c.th) (hm : (m : Int) ≤ c.sl) (hs : c.sl ≤ 30) (hc : cfgOk c) : FGround c n m (groundM n t k (rowsTo c (rangeI m) m)) := by
 obtain ⟨h1, h2, h3⟩ := rows_peek (n := n) (t := t) hk hth hm hs m (Nat.le_refl m)
 exact ⟨ground_good (fun j hj => (rows_good hc _ _ j hj).2), by rw [ground_pass]; exact hk, h3, ⟨_, h1, by split <;> omega⟩, fun s h h' => ⟨_, h2 s h h'⟩, rows_chain hk hth hm hs⟩
theorem rangeI_cons (m : Nat) : ∃ L, rangeI (m + 1) = 0 :: L := ⟨_, by unfold rangeI; rw [List.range_succ_eq_map, List.map_cons]; rfl⟩
/-- alone a Pop takes the first, and a Push puts it back -/
theorem alone_law {c : Cfg} {n m : Nat} {t : Int} {M : MemM} (F : FGround c n m M) (hth : 1 ≤ c.th ∧ c.th ≤ 64) (hs : c.sl ≤ 30) (hm : (m : Int) ≤ c.sl) (h0 : 0 < m) :
  (popIt c n ⟨t, 0, 0, 0, -1⟩ M 9).1.pc = 3 ∧ (popIt c n ⟨t, 0, 0, 0, -1⟩ M 9).1.slot = 0 ∧ (popIt c n ⟨t, 0, 0, 0, -1⟩ M 9).2.clock = m + 3 ∧
  (pushIt c n ⟨t, 0, 0, (popIt c n ⟨t, 0, 0, 0, -1⟩ M 9).1.slot⟩ (popIt c n ⟨t, 0, 0, 0, -1⟩ M 9).2 9).1.pc = 3 ∧ (pushIt c n ⟨t, 0, 0, (popIt c n ⟨t, 0, 0, 0, -1⟩ M 9).1.slot⟩ (popIt c n ⟨t, 0, 0, 0, -1⟩ M 9).2 9).2.clock = m + 6 ∧
  listG c n (pushIt c n ⟨t, 0, 0, (popIt c n ⟨t, 0, 0, 0, -1⟩ M 9).1.slot⟩ (popIt c n ⟨t, 0, 0, 0, -1⟩ M 9).2 9).2 = (rangeI m, true) := by
 obtain ⟨w, hp, _⟩ := F.tp
 obtain ⟨q, rfl⟩ : ∃ q, m = q + 1 := ⟨m - 1, by omega⟩
 obtain ⟨L, hL⟩ := rangeI_cons q
 have hch := F.ch
 rw [hL] at hch
 have htop : topW n M = w := by unfold topW; rw [hp]; rfl
 rw [htop] at hch
 obtain ⟨ht0, hch⟩ := hch
 obtain ⟨nx, hx⟩ := F.af 0 (Int.le_refl _) (by omega)
 have hcl := F.cl
 obtain ⟨a1, a2, a3, a4, a5⟩ := pop_one (c := c) (n := n) (t := t) (w := w) (nx := nx) hth.1 hp (by omega) (by rw [ht0]; exact hx) (by omega)
 rw [ht0] at a2
 generalize hX : popIt c n ⟨t, 0, 0, 0, -1⟩ M 9 = X at a1 a2 a3 a4 a5 ⊢
 have hpl : (X.2.pass.length : Int) = 2 + c.th + c.sl := by rw [← hX, popIt_pass]; exact F.pl
 obtain ⟨b1, b2, b3, b4, b5⟩ := push_one (c := c) (n := n) (t := t) (s := 0) (M := X.2) hth.1 hpl a4 (by omega) (by omega)
 rw [a2]
 refine ⟨a1, rfl, by rw [a3, hcl], b1, by rw [b2, a3, hcl]; omega, ?_⟩
 have hnd := rangeI_nodup (q + 1)
 rw [hL] at hnd
 refine listG_chain ?_ (rangeI_nodup _) (fun s hs => by have := rangeI_mem.1 hs; omega)
 rw [hL]
 have hx0 : aftW c n M 0 = nx := by unfold aftW; rw [aft_at (by omega), hx]; rfl
 refine ⟨?_, ?_⟩
 ·show toI (topW n _) = 0
  unfold topW; rw [b3]; exact toI_newer (by omega)
 ·have e1 : aftW c n (pushIt c n ⟨t, 0, 0, 0⟩ X.2 9).2 0 = topI (toI (newerI (toI nx) w)) 0 := by unfold aftW; rw [aft_at (by omega), b4]; rfl
  rw [e1]
  have hlt := toI_lt nx
  have hge := toI_ge nx
  have e2 : toI (topI (toI (newerI (toI nx) w)) 0) = toI (aftW c n M 0) := by rw [hx0, toI_newer ⟨hge, hlt⟩, toI_topI ⟨hge, hlt⟩]
  refine ChainF.word e2.symm (ChainF.ext (fun s hs => ?_) hch)
  have hr := rangeI_mem.1 (show s ∈ rangeI (q + 1) by rw [hL]; simp [hs])
  have hne : s ≠ 0 := fun e => by subst e; exact (List.nodup_cons.1 hnd).1 hs
  unfold aftW
  rw [aft_at (by omega), b5 _ (by omega) (by omega), a5 _ (by omega)]
theorem alone_none {c : Cfg} {n : Nat} {t : Int} {M : MemM} (F : FGround c n 0 M) :
  (popIt c n ⟨t, 0, 0, 0, -1⟩ M 9).1.pc = 3 ∧ (popIt c n ⟨t, 0, 0, 0, -1⟩ M 9).1.slot = -1 ∧ (popIt c n ⟨t, 0, 0, 0, -1⟩ M 9).2.clock = 1 := by
 obtain ⟨w, hp, _⟩ := F.tp
 have hch : toI (topW n M) = -1 := F.ch
 have htop : topW n M = w := by unfold topW; rw [hp]; rfl
 have hcl := F.cl
 obtain ⟨a1, a2, a3⟩ := pop_none (c := c) (n := n) (t := t) hp (by rw [← htop]; exact hch) (by omega)
 exact ⟨a1, a2, by rw [a3, hcl]; rfl⟩
end Go.Proofs.Ytajkickofkeemaa
