import Derived.Test.YtbfafebfkdbglaaGreatFtk2
import Derived.Test.YtbfafebfkdbglaaGreatLl4
/- Layer 12: several threads that take and give back: the plain law. -/
namespace Go.Proofs.YtbfafebfkdbglaaGreat
open Go.RowKit
set_option linter.unusedVariables false
attribute [local irreducible] K.KW K.RW K.DW K.OW K.QR K.KC
section
variable {n nt : Nat} {M : MemM} {th i j w old : Int}
theorem accS_pk (hs : M.dev.seen.length = n * 8) (hi : 0 ≤ i ∧ i < n * 8) : (M.accS n th i w).1.peek n j = if j = i then some w else M.peek n j := by
 show (if (M.peek n i).isSome = true then M.put i w else M).peek n j = _
 rw [if_pos (show (M.peek n i).isSome = true by rw [peek_dev hi]; rfl), putD hi.1]
 unfold MemM.peek
 show (if 0 ≤ j then (if j < n * 8 then some ((M.dev.seen.set i.toNat w).getD j.toNat 0) else none) else _) = _
 by_cases hj : j = i
 ·subst hj; rw [if_pos hi.1, if_pos hi.2, if_pos rfl, getD_set_self (by omega)]
 ·rw [if_neg hj]
  by_cases h0 : 0 ≤ j
  ·rw [if_pos h0, if_pos h0]
   by_cases h1 : j < n * 8
   ·rw [if_pos h1, if_pos h1]
    congr 1
    have hne : ¬ i.toNat = j.toNat := by omega
    simp [List.getD_eq_getElem?_getD, List.getElem?_set, hne]
   ·rw [if_neg h1, if_neg h1]
  ·rw [if_neg h0, if_neg h0]
theorem accS_ok (h : M.dev.ok n nt) : (M.accS n th i w).1.dev.ok n nt := by
 show (if (M.peek n i).isSome = true then M.put i w else M).dev.ok n nt
 split
 ·by_cases h0 : 0 ≤ i
  ·rw [putD h0]; exact h.store
  ·rw [putP h0]; exact h
 ·exact h
theorem accF_pk : (M.accF n nt th i).1.peek n j = M.peek n j := by
 show (if decide _ = true then _ else M).peek n j = _
 split <;> rfl
theorem accE_pk : (M.accE nt th).1.peek n j = M.peek n j := by
 show (if decide _ = true then _ else M).peek n j = _
 split
 ·unfold MemM.peek
  show (if 0 ≤ j then (if j < n * 8 then some ((M.dev.fence th.toNat).seen.getD j.toNat 0) else none) else _) = _
  rw [DevM.fence_seen]
 ·rfl
theorem ground_snoc (n t k : Nat) (ps : List PutM) (p : PutM) : groundM n t k (ps ++ [p]) = ((groundM n t k ps).accS n 0 p.at_ p.w).1 := by unfold groundM putsT; rw [List.foldl_append]; rfl
theorem put_peekN (hi : i < 0) (hl : -1 - i < M.pass.length) : (M.put i w).peek n j = if j = i then some w else M.peek n j := by
 rw [putP (by omega)]
 by_cases h : j = i
 ·subst h
  rw [if_pos rfl]
  have hl2 : (-1 - j).toNat < M.pass.length := by omega
  rw [peek_pass (by simp; omega)]; simp [hl2]
 ·rw [if_neg h]
  unfold MemM.peek
  by_cases hj : 0 ≤ j
  ·rw [if_pos hj, if_pos hj]
  ·rw [if_neg hj, if_neg hj]
   have hne : ¬ (-1 - i).toNat = (-1 - j).toNat := by omega
   simp [List.getD_eq_getElem?_getD, List.getElem?_set, hne]
theorem accS_peek (hi : i < 0) : (M.accS n th i w).1.peek n j = if j = i ∧ -1 - i < M.pass.length then some w else M.peek n j := by
 show (MemM.count (if (M.peek n i).isSome then M.put i w else M) _ _).peek n j = _
 by_cases hl : -1 - i < M.pass.length
 ·have hs : (M.peek n i).isSome = true := by rw [peek_pass ⟨hi, hl⟩]; rfl
  rw [if_pos hs]
  show (M.put i w).peek n j = _
  rw [put_peekN hi hl]
  by_cases h : j = i
  ·rw [if_pos h, if_pos ⟨h, hl⟩]
  ·rw [if_neg h, if_neg (fun x => h x.1)]
 ·have hs : ¬ (M.peek n i).isSome = true := by rw [peek_nopass hi (by omega)]; simp
  rw [if_neg hs, if_neg (fun x => hl x.2)]; rfl
theorem accW_peek (hi : i < 0) : (M.accW n th i old w).1.peek n j = if j = i ∧ M.peek n i = some old then some w else M.peek n j := by
 show (MemM.count (if (M.peek n i == some old) = true then M.put i w else M) _ _).peek n j = _
 by_cases h : M.peek n i = some old
 ·rw [if_pos (by simpa using h)]
  show (M.put i w).peek n j = _
  have hl : -1 - i < M.pass.length := by
   rcases peek_some h with h1 | h1
   ·omega
   ·exact h1.2
  rw [put_peekN hi hl]
  by_cases hj : j = i
  ·rw [if_pos hj, if_pos ⟨hj, h⟩]
  ·rw [if_neg hj, if_neg (fun x => hj x.1)]
 ·rw [if_neg (by simpa using h), if_neg (fun x => h x.2)]; rfl
end
/-- the places of a log are words of the device, each its own -/
theorem log_at {c : Cfg} (hc : cfgOk c) {t k : Int} (ht : 0 ≤ t ∧ t < c.th) (hk : 0 ≤ k ∧ k < c.lo) : logS c t k = (lFirst c + lsz c * t) * 8 + k ∧ 0 ≤ logS c t k ∧ logS c t k < (((lns c).toNat : Nat) : Int) * 8 := by
 have hb := lay_bd hc
 have h1 : logS c t k = (lFirst c + lsz c * t) * 8 + k := by unfold logS wordS; rw [if_pos hk, if_pos ht]
 have h2 : 0 ≤ lsz c * t := Int.mul_nonneg (by omega) (by omega)
 have h3 : lsz c * (t + 1) ≤ lsz c * c.th := Int.mul_le_mul_of_nonneg_left (by omega) (by omega)
 have h4 : lsz c * c.th = tl c := by unfold tl; exact Int.mul_comm _ _
 have h5 : lsz c * (t + 1) = lsz c * t + lsz c := by rw [Int.mul_add, Int.mul_one]
 have h6 : lsz c = (c.lo + 7) / 8 := rfl
 unfold cfgOk at hc
 refine ⟨h1, by omega, by omega⟩
theorem fresh_ok {c : Cfg} (hc : cfgOk c) {k : Nat} : (MemM.of (DevM.fresh (List.replicate ((lns c).toNat * 8) 0) (lns c).toNat c.th.toNat) k).dev.ok (lns c).toNat c.th.toNat := by
 have hb := lay_bd hc
 unfold cfgOk at hc
 exact DevM.ok.fresh (by simp) (by omega) (by omega) (by omega) (by omega)
theorem accF_ok {M : MemM} {n nt : Nat} {th i : Int} (h : M.dev.ok n nt) : (M.accF n nt th i).1.dev.ok n nt := by
 show (if decide _ = true then _ else M).dev.ok n nt
 split
 ·rename_i hd
  have hd := of_decide_eq_true hd
  exact h.mark (by omega)
 ·exact h
theorem accE_ok {M : MemM} {n nt : Nat} {th : Int} (h : M.dev.ok n nt) : (M.accE nt th).1.dev.ok n nt := by
 show (if decide _ = true then _ else M).dev.ok n nt
 split
 ·rename_i hd
  have hd := of_decide_eq_true hd
  exact h.fence (by omega)
 ·exact h
theorem accF_pass {M : MemM} {n nt : Nat} {th i : Int} : (M.accF n nt th i).1.pass.length = M.pass.length := by
 show (if decide _ = true then _ else M).pass.length = _
 split <;> rfl
theorem accE_pass {M : MemM} {nt : Nat} {th : Int} : (M.accE nt th).1.pass.length = M.pass.length := by
 show (if decide _ = true then _ else M).pass.length = _
 split <;> rfl
theorem accW_okN {M : MemM} {n nt : Nat} {th i old w : Int} (hi : i < 0) (h : M.dev.ok n nt) : (M.accW n th i old w).1.dev.ok n nt := by
 show (if (M.peek n i == some old) = true then M.put i w else M).dev.ok n nt
 split
 ·rw [putP (by omega)]; exact h
 ·exact h
def ChainF (f : Int → Int) : Int → List Int → Prop
 | w, [] => toI w = -1
 | w, s :: L => toI w = s ∧ ChainF f (f s) L
theorem ChainF.ext {f g : Int → Int} : ∀ {L : List Int} {w : Int}, (∀ s ∈ L, f s = g s) → ChainF f w L → ChainF g w L
 | [], _, _, h => h
 | s :: L, w, he, h => ⟨h.1, by rw [← he s (by simp)]; exact ChainF.ext (fun x hx => he x (by simp [hx])) h.2⟩
theorem ChainF.word {f : Int → Int} {w w' : Int} : ∀ {L : List Int}, toI w = toI w' → ChainF f w L → ChainF f w' L
 | [], e, h => e.symm.trans h
 | s :: L, e, h => ⟨e.symm.trans h.1, h.2⟩
def aftW (c : Cfg) (n : Nat) (M : MemM) (s : Int) : Int := (M.peek n (aftS c s)).getD 0
def topW (n : Nat) (M : MemM) : Int := (M.peek n (-2)).getD 0
theorem listC_chain {c : Cfg} {n : Nat} {M : MemM} : ∀ (L : List Int) (m : Nat) (o : List Int) (w : Int), ChainF (aftW c n M) w L → (o ++ L).Nodup → (∀ s ∈ L, 0 ≤ s ∧ s < c.sl) → L.length < m → listC c n M m o w = (o ++ L, true)
 | [], m, o, w, h, _, _, hm => by rw [listC_end (by simpa using hm) h, List.append_nil]
 | s :: L, 0, o, w, _, _, _, hm => by simp at hm
 | s :: L, m + 1, o, w, h, hn, hr, hm => by
  have hs := hr s (by simp)
  have hno : ¬ s ∈ o := fun hx => (List.nodup_append.1 hn).2.2 s hx s (by simp) rfl
  rw [listC_on rfl (by rw [h.1]; omega) (by rw [h.1]; omega) (by rw [h.1]; exact hno), h.1]
  have := listC_chain L m (o ++ [s]) ((M.peek n (aftS c s)).getD 0) h.2 (by simpa using hn) (fun x hx => hr x (by simp [hx])) (by simpa using hm)
  rw [this, List.append_assoc]; rfl
theorem listG_chain {c : Cfg} {n : Nat} {M : MemM} {L : List Int} (h : ChainF (aftW c n M) (topW n M) L) (hn : L.Nodup) (hr : ∀ s ∈ L, 0 ≤ s ∧ s < c.sl) : listG c n M = (L, true) := by
 have hl := nodup_le c.sl.toNat L hn (fun y hy => by have := hr y hy; omega)
 unfold listG
 exact listC_chain L _ [] _ h (by simpa using hn) hr (by omega)
def rangeI (m : Nat) : List Int := (List.range m).map fun (i : Nat) => (i : Int)
theorem rangeI_succ (m : Nat) : rangeI (m + 1) = rangeI m ++ [(m : Int)] := by unfold rangeI; rw [List.range_succ, List.map_append]; rfl
theorem rangeI_len (m : Nat) : (rangeI m).length = m := by simp [rangeI]
theorem rangeI_get {m j : Nat} (h : j < m) : (rangeI m).getD j 0 = (j : Int) := by simp [rangeI, h]
theorem rangeI_mem {m : Nat} {x : Int} : x ∈ rangeI m ↔ 0 ≤ x ∧ x < m := by
 unfold rangeI
 rw [List.mem_map]
 constructor
 ·rintro ⟨i, hi, rfl⟩; have := List.mem_range.1 hi; omega
 ·intro h; exact ⟨x.toNat, List.mem_range.2 (by omega), by omega⟩
theorem rangeI_nodup (m : Nat) : (rangeI m).Nodup := by
 unfold rangeI
 exact (List.nodup_range).map _ (fun a b hne he => hne (by exact Int.ofNat.inj he))
theorem numW_small {x : Int} (h : 0 ≤ x ∧ x ≤ 1000) : numW x = x + 1 := by unfold numW; rw [wrapU, wrapU]; omega
theorem aft_at {c : Cfg} {s : Int} (h : 0 ≤ s ∧ s < c.sl) : aftS c s = -3 - c.th - s := aft_in' h
where aft_in' {c : Cfg} {s : Int} (h : 0 ≤ s ∧ s < c.sl) : aftS c s = -3 - c.th - s := by unfold aftS; rw [if_pos h]
/-- the memory behind so many rows of a free list 0, 1, 2, .. -/
theorem rows_peek {c : Cfg} {n t k m : Nat} (hk : (k : Int) = 2 + c.th + c.sl) (hth : 1 ≤ c.th) (hm : (m : Int) ≤ c.sl) (hs : c.sl ≤ 30) : ∀ (j : Nat), j ≤ m →
  (groundM n t k (rowsTo c (rangeI m) j)).peek n (-2) = some (if 0 < j then 1 else 0) ∧ (∀ s : Int, 0 ≤ s → s < c.sl → (groundM n t k (rowsTo c (rangeI m) j)).peek n (-3 - c.th - s) = some (if s + 1 < j then s + 2 else 0)) ∧ (groundM n t k (rowsTo c (rangeI m) j)).clock = j
 | 0, _ => ⟨g0p (by omega), fun s h1 h2 => by
   rw [if_neg (by omega)]; exact g0p (by omega), rfl⟩
 | j + 1, hj => by
  obtain ⟨h1, h2, h3⟩ := rows_peek (n := n) (t := t) hk hth hm hs j (by omega)
  have hl : (groundM n t k (rowsTo c (rangeI m) j)).pass.length = k := ground_pass
  rw [rowsTo_succ, groundS, rangeI_get (by omega), numW_small (by omega)]
  have hat : atS c (rangeI m) j = if j = 0 then -2 else -3 - c.th - ((j : Int) - 1) := by
   unfold atS
   split
   ·rfl
   ·rw [rangeI_get (by omega), aft_at (by omega)]; omega
  have hneg : atS c (rangeI m) j < 0 ∧ -1 - atS c (rangeI m) j < k := by rw [hat]; split <;> omega
  have pk : ∀ i : Int, ((groundM n t k (rowsTo c (rangeI m) j)).accS n 0 (atS c (rangeI m) j) ((j : Int) + 1)).1.peek n i = if i = atS c (rangeI m) j then some ((j : Int) + 1) else (groundM n t k (rowsTo c (rangeI m) j)).peek n i := fun i => by
   rw [accS_peek hneg.1]
   by_cases hi : i = atS c (rangeI m) j
   ·rw [if_pos ⟨hi, by omega⟩, if_pos hi]
   ·rw [if_neg (fun h => hi h.1), if_neg hi]
  refine ⟨?_, fun s hs0 hs1 => ?_, ?_⟩
  ·rw [pk, hat]
   by_cases h0 : j = 0
   ·subst h0; rw [if_pos rfl, if_pos rfl, if_pos (by omega)]; rfl
   ·rw [if_neg h0, if_neg (by omega), h1, if_pos (by omega), if_pos (by omega)]
  ·rw [pk, hat]
   by_cases h0 : j = 0
   ·subst h0; rw [if_pos rfl, if_neg (by omega), h2 s hs0 hs1, if_neg (by omega), if_neg (by omega)]
   ·rw [if_neg h0]
    by_cases hsj : s = (j : Int) - 1
    ·rw [if_pos (by omega), if_pos (by omega)]; congr 1; omega
    ·rw [if_neg (by omega), h2 s hs0 hs1]
     by_cases h5 : s + 1 < j
     ·rw [if_pos h5, if_pos (by omega)]
     ·rw [if_neg h5, if_neg (by omega)]
  ·rw [show ((groundM n t k (rowsTo c (rangeI m) j)).accS n 0 (atS c (rangeI m) j) ((j : Int) + 1)).1.clock = i64s (groundM n t k (rowsTo c (rangeI m) j)).clock from clkS, h3]
   unfold i64s; rw [IntWalk.i64_in _ (by omega)]; omega
where
 g0p {n t k : Nat} {i : Int} (h : i < 0 ∧ -1 - i < k) : (groundM n t k []).peek n i = some 0 := by
  show (MemM.of (DevM.fresh (List.replicate (n * 8) 0) n t) k).peek n i = _
  rw [peek_pass (by simpa [MemM.of] using h)]
  have : (-1 - i).toNat < k := by omega
  simp [MemM.of, this]
 groundS {n t k : Nat} {ps : List PutM} {p : PutM} : groundM n t k (ps ++ [p]) = ((groundM n t k ps).accS n 0 p.at_ p.w).1 := by unfold groundM putsT; rw [List.foldl_append]; rfl
 clkS {M : MemM} {n : Nat} {th i w : Int} : (M.accS n th i w).1.clock = i64s M.clock := by
  show i64s (if (M.peek n i).isSome then M.put i w else M).clock = _
  split
  ·unfold MemM.put; split <;> rfl
  ·rfl
theorem rows_chain {c : Cfg} {n t k m : Nat} (hk : (k : Int) = 2 + c.th + c.sl) (hth : 1 ≤ c.th) (hm : (m : Int) ≤ c.sl) (hs : c.sl ≤ 30) : ChainF (aftW c n (groundM n t k (rowsTo c (rangeI m) m))) (topW n (groundM n t k (rowsTo c (rangeI m) m))) (rangeI m) := by
 obtain ⟨h1, h2, _⟩ := rows_peek (n := n) (t := t) hk hth hm hs m (Nat.le_refl m)
 have go : ∀ (q j : Nat), j + q = m → ∀ w : Int, toI w = (if 0 < q then (j : Int) else -1) → ChainF (aftW c n (groundM n t k (rowsTo c (rangeI m) m))) w ((List.range q).map fun (i : Nat) => ((j + i : Nat) : Int)) := by
  intro q
  induction q with
  | zero => intro j _ w hw; rw [if_neg (by omega)] at hw; exact hw
  | succ q ih =>
   intro j hj w hw
   rw [if_pos (by omega)] at hw
   rw [List.range_succ_eq_map, List.map_cons, List.map_map]
   refine ⟨by rw [hw]; rfl, ?_⟩
   have e1 : ((fun (i : Nat) => ((j + i : Nat) : Int)) ∘ Nat.succ) = fun (i : Nat) => (((j + 1) + i : Nat) : Int) := by funext i; show ((j + (i + 1) : Nat) : Int) = _; congr 1; omega
   rw [e1]
   refine ih (j + 1) (by omega) _ ?_
   unfold aftW
   rw [aft_at (by omega), h2 (((j + 0 : Nat) : Int)) (by omega) (by omega)]
   by_cases hq : 0 < q
   ·rw [if_pos hq, if_pos (by omega)]; show toI (((j + 0 : Nat) : Int) + 2) = _; unfold toI; omega
   ·rw [if_neg hq, if_neg (by omega)]; rfl
 have h := go m 0 (by omega) (topW n (groundM n t k (rowsTo c (rangeI m) m))) (by unfold topW; rw [h1]; split <;> rfl)
 have e : (List.range m).map (fun (i : Nat) => ((0 + i : Nat) : Int)) = rangeI m := by unfold rangeI; congr 1; funext i; congr 1; omega
 rw [e] at h; exact h
theorem toI_topI {x v : Int} (h : -1 ≤ x ∧ x < 4294967295) : toI (topI x v) = x := by unfold toI topI; omega
theorem toI_newer {x w : Int} (h : -1 ≤ x ∧ x < 4294967295) : toI (newerI x w) = x := toI_topI h
theorem toI_lt (w : Int) : toI w < 4294967295 := by unfold toI; omega
theorem clkS {M : MemM} {n : Nat} {th i w : Int} : (M.accS n th i w).1.clock = i64s M.clock := by
 show i64s (if (M.peek n i).isSome then M.put i w else M).clock = _
 split
 ·unfold MemM.put; split <;> rfl
 ·rfl
/-- a ground of which the slots 0, 1, .. are free -/
structure FGround (c : Cfg) (n : Nat) (m : Nat) (M : MemM) : Prop where
 good : M.good
 pl : (M.pass.length : Int) = 2 + c.th + c.sl
 cl : M.clock = m
 tp : ∃ w, M.peek n (-2) = some w ∧ 0 ≤ w ∧ w < 4294967296
 af : ∀ s : Int, 0 ≤ s → s < c.sl → ∃ w, M.peek n (-3 - c.th - s) = some w
 ch : ChainF (aftW c n M) (topW n M) (rangeI m)
theorem fground {c : Cfg} {n t k m : Nat} (hk : (k : Int) = 2 + c.th + c.sl) (hth : 1 ≤ c.th) (hm : (m : Int) ≤ c.sl) (hs : c.sl ≤ 30) (hc : cfgOk c) : FGround c n m (groundM n t k (rowsTo c (rangeI m) m)) := by
 obtain ⟨h1, h2, h3⟩ := rows_peek (n := n) (t := t) hk hth hm hs m (Nat.le_refl m)
 exact ⟨ground_good (fun j hj => (rows_good hc _ _ j hj).2), by rw [ground_pass]; exact hk, h3, ⟨_, h1, by split <;> omega⟩, fun s h h' => ⟨_, h2 s h h'⟩, rows_chain hk hth hm hs⟩
inductive HandM where
 | nil
 | pop (S : PopS)
 | push (S : PushS)
def HandM.held : HandM → Int
 | .nil => -1
 | .pop _ => -1
 | .push S => S.slot
def HandM.good : HandM → Prop
 | .nil => True
 | .pop S => S.good
 | .push S => S.good
/-- a word that was the top is the top, or older -/
def TopOk (top w : Int) : Prop := isW w ∧ verI w ≤ verI top ∧ (verI w = verI top → w = top)
def HOk (c : Cfg) (n : Nat) (M : MemM) : HandM → Prop
 | .nil => False
 | .pop S => S.good ∧ S.slot = -1 ∧ (S.pc = 0 ∨ S.pc = 1 ∨ S.pc = 2) ∧ (¬ S.pc = 0 → TopOk (topW n M) S.top ∧ ¬ toI S.top = -1) ∧ (S.pc = 2 → verI S.top = verI (topW n M) → S.next = aftW c n M (toI S.top))
 | .push S => S.good ∧ (0 ≤ S.slot ∧ S.slot < c.sl) ∧ (S.pc = 0 ∨ S.pc = 1 ∨ S.pc = 2) ∧ (¬ S.pc = 0 → TopOk (topW n M) S.top) ∧ (S.pc = 2 → toI (aftW c n M S.slot) = toI S.top)
def handStep (c : Cfg) (n : Nat) (t : Int) : HandM → MemM → HandM × MemM
 | .nil, M => (.nil, M)
 | .pop S, M => (if (popStep c n S M).1.pc = 3 then (if (popStep c n S M).1.slot = -1 then .pop ⟨t, 0, 0, 0, -1⟩ else .push ⟨t, 0, 0, (popStep c n S M).1.slot⟩) else .pop (popStep c n S M).1, (popStep c n S M).2)
 | .push S, M => (if (pushStep c n S M).1.pc = 3 then .pop ⟨t, 0, 0, 0, -1⟩ else .push (pushStep c n S M).1, (pushStep c n S M).2)
structure MInv (c : Cfg) (n : Nat) (M : MemM) (L : List Int) (j : Nat) : Prop where
 good : M.good
 pl : (M.pass.length : Int) = 2 + c.th + c.sl
 ch : ChainF (aftW c n M) (topW n M) L
 nd : L.Nodup
 rg : ∀ s ∈ L, 0 ≤ s ∧ s < c.sl
 ver : verI (topW n M) ≤ j
structure FInv (c : Cfg) (n : Nat) (hs : List HandM) (M : MemM) (L : List Int) (j : Nat) : Prop where
 len : hs.length = c.th.toNat
 mi : MInv c n M L j
 held : ∀ (k : Nat) h, hs[k]? = some h → h.held ≠ -1 → 0 ≤ h.held ∧ h.held < c.sl ∧ ¬ h.held ∈ L
 dist : ∀ (k k' : Nat) h h', k ≠ k' → hs[k]? = some h → hs[k']? = some h' → h.held ≠ -1 → h.held ≠ h'.held
 all : ∀ s : Int, 0 ≤ s → s < c.sl → s ∈ L ∨ ∃ (k : Nat) (h : HandM), hs[k]? = some h ∧ h.held = s
 ok : ∀ (k : Nat) h, hs[k]? = some h → HOk c n M h
theorem topW_w {n : Nat} {M : MemM} (h : M.good) : isW (topW n M) := peek0_W h
theorem verI_nn (w : Int) : 0 ≤ verI w ∧ verI w < 4294967296 := by unfold verI; omega
theorem verI_newer {x w : Int} (h : verI w < 4294967295) : verI (newerI x w) = verI w + 1 := by
 have := verI_nn w
 unfold newerI topI
 show ((x + 1) % 4294967296 + (verI w + 1) % 4294967296 * 4294967296) / 4294967296 % 4294967296 = _
 omega
theorem peek_top {c : Cfg} {n : Nat} {M : MemM} (hpl : (M.pass.length : Int) = 2 + c.th + c.sl) (hth : 1 ≤ c.th ∧ 0 ≤ c.sl) : M.peek n (-2) = some (topW n M) := by
 unfold topW; rw [peek_pass (by omega)]; rfl
theorem TopOk.refl {w : Int} (h : isW w) : TopOk w w := ⟨h, Int.le_refl _, fun _ => rfl⟩
/-- how another hand stands behind it; at after: the slot is not its own, nor the top's -/
theorem HOk.keep_none {c : Cfg} {n : Nat} {M M' : MemM} {h : HandM} (hk : HOk c n M h) (h1 : topW n M' = topW n M) (h2 : ∀ s, 0 ≤ s → s < c.sl → aftW c n M' s = aftW c n M s) (hr : ∀ s, toI (topW n M) = s → ¬ s = -1 → 0 ≤ s ∧ s < c.sl) : HOk c n M' h := by
 cases h with
 | nil => exact hk.elim
 | pop S =>
  obtain ⟨a, b, d, e, f⟩ := hk
  refine ⟨a, b, d, by rw [h1]; exact e, fun hp hv => ?_⟩
  rw [h1] at hv
  have := e (by omega)
  have ht := this.1.2.2 hv
  have hrr := hr _ rfl (by rw [← ht]; exact this.2)
  rw [f hp hv, h2 _ (by rw [ht]; exact hrr.1) (by rw [ht]; exact hrr.2)]
 | push S =>
  obtain ⟨a, b, d, e, f⟩ := hk
  exact ⟨a, b, d, by rw [h1]; exact e, fun hp => by rw [h2 _ b.1 b.2]; exact f hp⟩
theorem HOk.keep_after {c : Cfg} {n : Nat} {M M' : MemM} {h : HandM} {s0 : Int} (hk : HOk c n M h) (h1 : topW n M' = topW n M) (h2 : ∀ s, 0 ≤ s → s < c.sl → s ≠ s0 → aftW c n M' s = aftW c n M s) (hr : ∀ s, toI (topW n M) = s → ¬ s = -1 → 0 ≤ s ∧ s < c.sl ∧ s ≠ s0) (hne : h.held ≠ s0) : HOk c n M' h := by
 cases h with
 | nil => exact hk.elim
 | pop S =>
  obtain ⟨a, b, d, e, f⟩ := hk
  refine ⟨a, b, d, by rw [h1]; exact e, fun hp hv => ?_⟩
  rw [h1] at hv
  have := e (by omega)
  have ht := this.1.2.2 hv
  have hrr := hr _ rfl (by rw [← ht]; exact this.2)
  rw [f hp hv, h2 _ (by rw [ht]; exact hrr.1) (by rw [ht]; exact hrr.2.1) (by rw [ht]; exact hrr.2.2)]
 | push S =>
  obtain ⟨a, b, d, e, f⟩ := hk
  exact ⟨a, b, d, by rw [h1]; exact e, fun hp => by rw [h2 _ b.1 b.2 hne]; exact f hp⟩
theorem TopOk.older {top w x : Int} (h : TopOk top x) (hv : verI w = verI top + 1) : TopOk w x := ⟨h.1, by have := h.2.1; omega, fun e => by have := h.2.1; omega⟩
theorem HOk.keep_top {c : Cfg} {n : Nat} {M M' : MemM} {h : HandM} {w : Int} (hk : HOk c n M h) (h1 : topW n M' = w) (hv : verI w = verI (topW n M) + 1) (h2 : ∀ s, 0 ≤ s → s < c.sl → aftW c n M' s = aftW c n M s) : HOk c n M' h := by
 cases h with
 | nil => exact hk.elim
 | pop S =>
  obtain ⟨a, b, d, e, f⟩ := hk
  refine ⟨a, b, d, fun hp => ?_, fun hp hv2 => ?_⟩
  ·rw [h1]; exact ⟨(e hp).1.older hv, (e hp).2⟩
  ·rw [h1] at hv2
   have := (e (by omega)).1.2.1; omega
 | push S =>
  obtain ⟨a, b, d, e, f⟩ := hk
  exact ⟨a, b, d, fun hp => by rw [h1]; exact (e hp).older hv, fun hp => by rw [h2 _ b.1 b.2]; exact f hp⟩
theorem top_head {c : Cfg} {n : Nat} {M : MemM} {L : List Int} {j : Nat} (I : MInv c n M L j) {s : Int} (h : toI (topW n M) = s) (hn : ¬ s = -1) : ∃ L', L = s :: L' := by
 have hc := I.ch
 cases L with
 | nil => exact absurd (h.symm.trans hc) hn
 | cons a L' => exact ⟨L', by rw [← h, hc.1]⟩
theorem top_rg {c : Cfg} {n : Nat} {M : MemM} {L : List Int} {j : Nat} (I : MInv c n M L j) : ∀ s, toI (topW n M) = s → ¬ s = -1 → 0 ≤ s ∧ s < c.sl := fun s h hn => by
 obtain ⟨L', rfl⟩ := top_head I h hn
 exact I.rg s (by simp)
/-- the hand k is set: what must be shown of it alone -/
theorem FInv.put {c : Cfg} {n : Nat} {hs : List HandM} {M M' : MemM} {L L' : List Int} {j k : Nat} {h0 h2 : HandM} (I : FInv c n hs M L j) (hk : hs[k]? = some h0) (mi : MInv c n M' L' (j + 1)) (ho : ∀ (k' : Nat) h, k' ≠ k → hs[k']? = some h → HOk c n M' h) (h2o : HOk c n M' h2)
  (hh : h2.held ≠ -1 → 0 ≤ h2.held ∧ h2.held < c.sl ∧ ¬ h2.held ∈ L' ∧ ∀ (k' : Nat) h, k' ≠ k → hs[k']? = some h → h.held ≠ h2.held) (hL : ∀ (k' : Nat) h, k' ≠ k → hs[k']? = some h → h.held ≠ -1 → ¬ h.held ∈ L')
  (ha : ∀ s : Int, 0 ≤ s → s < c.sl → s ∈ L' ∨ h2.held = s ∨ ∃ (k' : Nat) (h : HandM), k' ≠ k ∧ hs[k']? = some h ∧ h.held = s) : FInv c n (hs.set k h2) M' L' (j + 1) := by
 have hkl : k < hs.length := (List.getElem?_eq_some_iff.1 hk).1
 have hget : ∀ (k' : Nat) h, (hs.set k h2)[k']? = some h → (k' = k ∧ h = h2) ∨ (k' ≠ k ∧ hs[k']? = some h) := by
  intro k' h hh
  rw [List.getElem?_set] at hh
  by_cases hkk : k = k'
  ·subst hkk
   rw [if_pos rfl, if_pos hkl] at hh
   cases hh; exact .inl ⟨rfl, rfl⟩
  ·rw [if_neg hkk] at hh; exact .inr ⟨fun e => hkk e.symm, hh⟩
 refine ⟨by rw [List.length_set]; exact I.len, mi, ?_, ?_, ?_, ?_⟩
 ·intro k' h hg hn
  rcases hget k' h hg with ⟨rfl, rfl⟩ | ⟨hne, hg⟩
  ·obtain ⟨a, b, d, _⟩ := hh hn; exact ⟨a, b, d⟩
  ·obtain ⟨a, b, _⟩ := I.held k' h hg hn; exact ⟨a, b, hL k' h hne hg hn⟩
 ·intro k1 k' h h' hne hgA hgB hn
  rcases hget k1 h hgA with ⟨rfl, rfl⟩ | ⟨hne1, hg1⟩
  ·rcases hget k' h' hgB with ⟨rfl, rfl⟩ | ⟨hne2, hg2⟩
   ·exact absurd rfl hne
   ·exact fun e => (hh hn).2.2.2 k' h' hne2 hg2 e.symm
  ·rcases hget k' h' hgB with ⟨rfl, rfl⟩ | ⟨hne2, hg2⟩
   ·intro e
    exact (hh (by rw [← e]; exact hn)).2.2.2 k1 h hne1 hg1 e
   ·exact I.dist k1 k' h h' hne hg1 hg2 hn
 ·intro s h0 h1
  rcases ha s h0 h1 with h | h | ⟨k', h, hne, hg, he⟩
  ·exact .inl h
  ·exact .inr ⟨k, h2, by rw [List.getElem?_set, if_pos rfl, if_pos hkl], h⟩
  ·exact .inr ⟨k', h, by rw [List.getElem?_set, if_neg (fun e => hne e.symm)]; exact hg, he⟩
 ·intro k' h hg
  rcases hget k' h hg with ⟨rfl, rfl⟩ | ⟨hne, hg⟩
  ·exact h2o
  ·exact ho k' h hne hg
theorem MInv.same {c : Cfg} {n : Nat} {M M' : MemM} {L : List Int} {j : Nat} (I : MInv c n M L j) (hg : M'.good) (hpl : M'.pass.length = M.pass.length) (h1 : topW n M' = topW n M) (h2 : ∀ s ∈ L, aftW c n M' s = aftW c n M s) : MInv c n M' L (j + 1) :=
 ⟨hg, by rw [hpl]; exact I.pl, by rw [h1]; exact ChainF.ext (fun s hs => (h2 s hs).symm) I.ch, I.nd, I.rg, by rw [h1]; have := I.ver; omega⟩
/-- the others hold what they held: those that held s were all but k, if k held nothing -/
theorem FInv.rest {c : Cfg} {n : Nat} {hs : List HandM} {M : MemM} {L : List Int} {j k : Nat} {h0 : HandM} (I : FInv c n hs M L j) (hk : hs[k]? = some h0) (s : Int) (h1 : 0 ≤ s) (h2 : s < c.sl) : s ∈ L ∨ h0.held = s ∨ ∃ (k' : Nat) (h : HandM), k' ≠ k ∧ hs[k']? = some h ∧ h.held = s := by
 rcases I.all s h1 h2 with h | ⟨k', h, hg, he⟩
 ·exact .inl h
 ·by_cases hkk : k' = k
  ·subst hkk; rw [hk] at hg; cases hg; exact .inr (.inl he)
  ·exact .inr (.inr ⟨k', h, hkk, hg, he⟩)
theorem FInv.next {c : Cfg} {n : Nat} {hs : List HandM} {M : MemM} {L : List Int} {j k : Nat} {h0 : HandM} {t : Int} (hc : 1 ≤ c.th ∧ 0 ≤ c.sl ∧ c.sl ≤ 30) (ht : isInt t) (I : FInv c n hs M L j) (hj : j ≤ 1000) (hk : hs[k]? = some h0) :
  ∃ L', FInv c n (hs.set k (handStep c n t h0 M).1) (handStep c n t h0 M).2 L' (j + 1) := by
 have J := I.mi
 have hv := J.ver
 have htw := topW_w (n := n) J.good
 have hpt := peek_top (c := c) (n := n) J.pl ⟨hc.1, hc.2.1⟩
 have htr := top_rg J
 have hko := I.ok k h0 hk
 have hnew : ∀ M' : MemM, HOk c n M' (.pop ⟨t, 0, 0, 0, -1⟩) := fun M' => ⟨popInit ht, rfl, .inl rfl, fun h => absurd rfl h, fun (h : (0 : Int) = 2) => absurd h (by decide)⟩
 -- a hand that holds what it held, a list that is as it was
 have same : ∀ (M' : MemM) (h2 : HandM), M'.good → M'.pass.length = M.pass.length → topW n M' = topW n M → (∀ s, 0 ≤ s → s < c.sl → aftW c n M' s = aftW c n M s) → HOk c n M' h2 → h2.held = h0.held → FInv c n (hs.set k h2) M' L (j + 1) := by
  intro M' h2 hg hpl h1 h3 h4 h5
  refine I.put hk (J.same hg hpl h1 (fun s hs => h3 s (J.rg s hs).1 (J.rg s hs).2)) (fun k' h hne hg' => (I.ok k' h hg').keep_none h1 h3 htr) h4 ?_ (fun k' h hne hg' hn => (I.held k' h hg' hn).2.2) (fun s h6 h7 => by rw [h5]; exact I.rest hk s h6 h7)
  intro hn
  rw [h5] at hn ⊢
  obtain ⟨a, b, d⟩ := I.held k h0 hk hn
  exact ⟨a, b, d, fun k' h hne hg' e => I.dist k k' h0 h (fun e => hne e.symm) hk hg' hn e.symm⟩
 cases h0 with
 | nil => exact hko.elim
 | pop S =>
  obtain ⟨hSg, hsl, hpc, htop, hnx⟩ := hko
  obtain ⟨hXg, hXm⟩ := popStep_good (c := c) (n := n) hSg J.good
  rcases hpc with hpc | hpc | hpc
  ·
   have e0 : popStep c n S M = (⟨S.t, if toI (topW n M) = -1 then 3 else 1, topW n M, S.next, S.slot⟩, (M.accL n S.t (-2)).1) := by
    unfold popStep; rw [if_neg (by omega), if_pos hpc]; rfl
   by_cases hno : toI (topW n M) = -1
   ·have e1 : handStep c n t (.pop S) M = (.pop ⟨t, 0, 0, 0, -1⟩, (M.accL n S.t (-2)).1) := by
     unfold handStep; simp only [e0]; rw [if_pos hno, if_pos rfl, if_pos hsl]
    rw [e1]; rw [e0] at hXm
    exact ⟨L, same _ _ hXm rfl rfl (fun _ _ _ => rfl) (hnew _) rfl⟩
   ·have e1 : handStep c n t (.pop S) M = (.pop ⟨S.t, 1, topW n M, S.next, S.slot⟩, (M.accL n S.t (-2)).1) := by
     unfold handStep; simp only [e0]; rw [if_neg hno, if_neg (by decide)]
    rw [e1]; rw [e0] at hXm hXg
    exact ⟨L, same _ _ hXm rfl rfl (fun _ _ _ => rfl) ⟨hXg, hsl, .inr (.inl rfl), fun _ => ⟨TopOk.refl htw, hno⟩, fun (h : (1 : Int) = 2) => absurd h (by decide)⟩ rfl⟩
  ·
   have e0 : popStep c n S M = (⟨S.t, 2, S.top, aftW c n M (toI S.top), S.slot⟩, (M.accL n S.t (aftS c (toI S.top))).1) := by
    unfold popStep; rw [if_neg (by omega), if_neg (by omega), if_pos hpc]; rfl
   have e1 : handStep c n t (.pop S) M = (.pop ⟨S.t, 2, S.top, aftW c n M (toI S.top), S.slot⟩, (M.accL n S.t (aftS c (toI S.top))).1) := by
    unfold handStep; simp only [e0]; rw [if_neg (by decide)]
   rw [e1]; rw [e0] at hXm hXg
   exact ⟨L, same _ _ hXm rfl rfl (fun _ _ _ => rfl) ⟨hXg, hsl, .inr (.inr rfl), fun _ => htop (by omega), fun _ _ => rfl⟩ rfl⟩
  ·
   obtain ⟨hto, htn⟩ := htop (by omega)
   have pk : ∀ i : Int, (M.accW n S.t (-2) S.top (newerI (toI S.next) S.top)).1.peek n i = if i = -2 ∧ M.peek n (-2) = some S.top then some (newerI (toI S.next) S.top) else M.peek n i := fun i => accW_peek (by omega)
   have hpl : (M.accW n S.t (-2) S.top (newerI (toI S.next) S.top)).1.pass.length = M.pass.length := accW_pass
   have haf : ∀ s, 0 ≤ s → s < c.sl → aftW c n (M.accW n S.t (-2) S.top (newerI (toI S.next) S.top)).1 s = aftW c n M s := fun s h1 h2 => by
    unfold aftW; rw [aft_at ⟨h1, h2⟩, pk, if_neg (by omega)]
   by_cases hw : topW n M = S.top
   ·have hd : (M.accW n S.t (-2) S.top (newerI (toI S.next) S.top)).2.done = true := by show (M.peek n (-2) == some S.top) = true; rw [hpt, hw]; simp
    have e0 : popStep c n S M = (⟨S.t, 3, S.top, S.next, toI S.top⟩, (M.accW n S.t (-2) S.top (newerI (toI S.next) S.top)).1) := by
     unfold popStep; rw [if_neg (by omega), if_neg (by omega), if_neg (by omega), if_pos hd]
    have e1 : handStep c n t (.pop S) M = (.push ⟨t, 0, 0, toI S.top⟩, (M.accW n S.t (-2) S.top (newerI (toI S.next) S.top)).1) := by
     unfold handStep; simp only [e0]; rw [if_pos trivial, if_neg htn]
    rw [e1]; rw [e0] at hXm
    obtain ⟨L', rfl⟩ := top_head J (s := toI S.top) (by rw [hw]) htn
    have hrs := J.rg (toI S.top) (by simp)
    have hnd := List.nodup_cons.1 J.nd
    have hnext := hnx hpc (by rw [hw])
    have ht2 : topW n (M.accW n S.t (-2) S.top (newerI (toI S.next) S.top)).1 = newerI (toI S.next) S.top := by unfold topW; rw [pk, if_pos ⟨rfl, by rw [hpt, hw]⟩]; rfl
    have hv2 : verI (newerI (toI S.next) S.top) = verI (topW n M) + 1 := by rw [hw]; exact verI_newer (by rw [← hw]; omega)
    have hch := J.ch
    refine ⟨L', I.put hk ⟨hXm, by rw [hpl]; exact J.pl, ?_, hnd.2, fun s hs => J.rg s (by simp [hs]), by rw [ht2, hv2]; omega⟩ (fun k' h hne hg' => (I.ok k' h hg').keep_top ht2 hv2 haf) ⟨pushInit ht (by show isInt (toI S.top); omega), hrs, .inl rfl, fun h => absurd rfl h, fun (h : (0 : Int) = 2) => absurd h (by decide)⟩ ?_ ?_ ?_⟩
    ·rw [ht2]
     refine ChainF.word (w := aftW c n M (toI S.top)) ?_ (ChainF.ext (fun s hs => (haf s (J.rg s (by simp [hs])).1 (J.rg s (by simp [hs])).2).symm) hch.2)
     rw [toI_newer ⟨toI_ge _, toI_lt _⟩, hnext]
    ·intro _
     exact ⟨hrs.1, hrs.2, hnd.1, fun k' h hne hg' e => (I.held k' h hg' (by rw [e]; show toI S.top ≠ -1; omega)).2.2 (by rw [e]; simp [HandM.held])⟩
    ·intro k' h hne hg' hn hm
     exact (I.held k' h hg' hn).2.2 (by simp [hm])
    ·intro s h1 h2
     rcases I.rest hk s h1 h2 with h | h | h
     ·rcases List.mem_cons.1 h with h | h
      ·exact .inr (.inl h.symm)
      ·exact .inl h
     ·exfalso; have h : (-1 : Int) = s := h; omega
     ·exact .inr (.inr h)
   ·have hd : ¬ (M.accW n S.t (-2) S.top (newerI (toI S.next) S.top)).2.done = true := by show ¬ (M.peek n (-2) == some S.top) = true; rw [hpt]; simpa using hw
    have e0 : popStep c n S M = (⟨S.t, 0, S.top, S.next, S.slot⟩, (M.accW n S.t (-2) S.top (newerI (toI S.next) S.top)).1) := by
     unfold popStep; rw [if_neg (by omega), if_neg (by omega), if_neg (by omega), if_neg hd]
    have e1 : handStep c n t (.pop S) M = (.pop ⟨S.t, 0, S.top, S.next, S.slot⟩, (M.accW n S.t (-2) S.top (newerI (toI S.next) S.top)).1) := by
     unfold handStep; simp only [e0]; rw [if_neg (by decide)]
    rw [e1]; rw [e0] at hXm hXg
    have ht2 : topW n (M.accW n S.t (-2) S.top (newerI (toI S.next) S.top)).1 = topW n M := by unfold topW; rw [pk, if_neg (fun h => hw (Option.some.inj (hpt.symm.trans h.2)))]
    exact ⟨L, same _ _ hXm hpl ht2 haf ⟨hXg, hsl, .inl rfl, fun h => absurd rfl h, fun (h : (0 : Int) = 2) => absurd h (by decide)⟩ rfl⟩
 | push S =>
  obtain ⟨hSg, hsl, hpc, htop, hnx⟩ := hko
  obtain ⟨hXg, hXm⟩ := pushStep_good (c := c) (n := n) hSg J.good
  have hheld := I.held k (.push S) hk (by show S.slot ≠ -1; omega)
  rcases hpc with hpc | hpc | hpc
  ·have e0 : pushStep c n S M = (⟨S.t, 1, topW n M, S.slot⟩, (M.accL n S.t (-2)).1) := by
    unfold pushStep; rw [if_neg (by omega), if_pos hpc]; rfl
   have e1 : handStep c n t (.push S) M = (.push ⟨S.t, 1, topW n M, S.slot⟩, (M.accL n S.t (-2)).1) := by
    unfold handStep; simp only [e0]; rw [if_neg (by decide)]
   rw [e1]; rw [e0] at hXm hXg
   exact ⟨L, same _ _ hXm rfl rfl (fun _ _ _ => rfl) ⟨hXg, hsl, .inr (.inl rfl), fun _ => TopOk.refl htw, fun (h : (1 : Int) = 2) => absurd h (by decide)⟩ rfl⟩
  ·
   have pk : ∀ i : Int, (M.accS n S.t (-3 - c.th - S.slot) (topI (toI S.top) 0)).1.peek n i = if i = -3 - c.th - S.slot then some (topI (toI S.top) 0) else M.peek n i := fun i => by
    rw [accS_peek (by omega)]
    have hp := J.pl
    by_cases hi : i = -3 - c.th - S.slot
    ·rw [if_pos ⟨hi, by omega⟩, if_pos hi]
    ·rw [if_neg (fun h => hi h.1), if_neg hi]
   have e0 : pushStep c n S M = (⟨S.t, 2, S.top, S.slot⟩, (M.accS n S.t (-3 - c.th - S.slot) (topI (toI S.top) 0)).1) := by
    unfold pushStep; rw [if_neg (by omega), if_neg (by omega), if_pos hpc, aft_at hsl]
   have e1 : handStep c n t (.push S) M = (.push ⟨S.t, 2, S.top, S.slot⟩, (M.accS n S.t (-3 - c.th - S.slot) (topI (toI S.top) 0)).1) := by
    unfold handStep; simp only [e0]; rw [if_neg (by decide)]
   rw [e1]; rw [e0] at hXm hXg
   have h1 : topW n (M.accS n S.t (-3 - c.th - S.slot) (topI (toI S.top) 0)).1 = topW n M := by unfold topW; rw [pk, if_neg (by omega)]
   have h2 : ∀ s, 0 ≤ s → s < c.sl → s ≠ S.slot → aftW c n (M.accS n S.t (-3 - c.th - S.slot) (topI (toI S.top) 0)).1 s = aftW c n M s := fun s h3 h4 h5 => by
    unfold aftW; rw [aft_at ⟨h3, h4⟩, pk, if_neg (by omega)]
   have h3 : aftW c n (M.accS n S.t (-3 - c.th - S.slot) (topI (toI S.top) 0)).1 S.slot = topI (toI S.top) 0 := by unfold aftW; rw [aft_at hsl, pk, if_pos rfl]; rfl
   have hnL : ¬ S.slot ∈ L := hheld.2.2
   refine ⟨L, I.put hk (J.same hXm accS_pass h1 (fun s hs => h2 s (J.rg s hs).1 (J.rg s hs).2 (fun e => hnL (e ▸ hs)))) (fun k' h hne hg' => ?_) ⟨hXg, hsl, .inr (.inr rfl), fun _ => by rw [h1]; exact htop (by omega), fun _ => by rw [h3]; exact toI_topI ⟨toI_ge _, toI_lt _⟩⟩ ?_ (fun k' h hne hg' hn => (I.held k' h hg' hn).2.2) (fun s h6 h7 => I.rest hk s h6 h7)⟩
   ·refine (I.ok k' h hg').keep_after (s0 := S.slot) h1 h2 (fun s hs hn => ?_) (fun e => I.dist k k' (.push S) h (fun e => hne e.symm) hk hg' (by show S.slot ≠ -1; omega) e.symm)
    obtain ⟨L', rfl⟩ := top_head J hs hn
    have := htr s hs hn
    exact ⟨this.1, this.2, fun e => hnL (by simp [e])⟩
   ·intro hn
    exact ⟨hsl.1, hsl.2, hnL, fun k' h hne hg' e => I.dist k k' (.push S) h (fun e => hne e.symm) hk hg' (by show S.slot ≠ -1; omega) e.symm⟩
  ·
   have hto := htop (by omega)
   have pk : ∀ i : Int, (M.accW n S.t (-2) S.top (newerI S.slot S.top)).1.peek n i = if i = -2 ∧ M.peek n (-2) = some S.top then some (newerI S.slot S.top) else M.peek n i := fun i => accW_peek (by omega)
   have hpl : (M.accW n S.t (-2) S.top (newerI S.slot S.top)).1.pass.length = M.pass.length := accW_pass
   have haf : ∀ s, 0 ≤ s → s < c.sl → aftW c n (M.accW n S.t (-2) S.top (newerI S.slot S.top)).1 s = aftW c n M s := fun s h1 h2 => by
    unfold aftW; rw [aft_at ⟨h1, h2⟩, pk, if_neg (by omega)]
   by_cases hw : topW n M = S.top
   ·have hd : (M.accW n S.t (-2) S.top (newerI S.slot S.top)).2.done = true := by show (M.peek n (-2) == some S.top) = true; rw [hpt, hw]; simp
    have e0 : pushStep c n S M = (⟨S.t, 3, S.top, S.slot⟩, (M.accW n S.t (-2) S.top (newerI S.slot S.top)).1) := by
     unfold pushStep; rw [if_neg (by omega), if_neg (by omega), if_neg (by omega), if_pos hd]
    have e1 : handStep c n t (.push S) M = (.pop ⟨t, 0, 0, 0, -1⟩, (M.accW n S.t (-2) S.top (newerI S.slot S.top)).1) := by
     unfold handStep; simp only [e0]; rw [if_pos trivial]
    rw [e1]; rw [e0] at hXm
    have ht2 : topW n (M.accW n S.t (-2) S.top (newerI S.slot S.top)).1 = newerI S.slot S.top := by unfold topW; rw [pk, if_pos ⟨rfl, by rw [hpt, hw]⟩]; rfl
    have hv2 : verI (newerI S.slot S.top) = verI (topW n M) + 1 := by rw [hw]; exact verI_newer (by rw [← hw]; omega)
    have hnL : ¬ S.slot ∈ L := hheld.2.2
    refine ⟨S.slot :: L, I.put hk ⟨hXm, by rw [hpl]; exact J.pl, ?_, List.nodup_cons.2 ⟨hnL, J.nd⟩, ?_, by rw [ht2, hv2]; omega⟩ (fun k' h hne hg' => (I.ok k' h hg').keep_top ht2 hv2 haf) (hnew _) (fun h => absurd rfl h) ?_ ?_⟩
    ·rw [ht2]
     refine ⟨toI_newer (by omega), ?_⟩
     rw [haf _ hsl.1 hsl.2]
     refine ChainF.word (w := topW n M) ?_ (ChainF.ext (fun s hs => (haf s (J.rg s hs).1 (J.rg s hs).2).symm) J.ch)
     rw [hnx hpc, hw]
    ·intro s hs
     rcases List.mem_cons.1 hs with rfl | hs
     ·exact hsl
     ·exact J.rg s hs
    ·intro k' h hne hg' hn hm
     rcases List.mem_cons.1 hm with e | hm
     ·exact I.dist k k' (.push S) h (fun e => hne e.symm) hk hg' (by show S.slot ≠ -1; omega) e.symm
     ·exact (I.held k' h hg' hn).2.2 hm
    ·intro s h1 h2
     rcases I.rest hk s h1 h2 with h | h | h
     ·exact .inl (by simp [h])
     ·exact .inl (by have h : S.slot = s := h; simp [h])
     ·exact .inr (.inr h)
   ·have hd : ¬ (M.accW n S.t (-2) S.top (newerI S.slot S.top)).2.done = true := by show ¬ (M.peek n (-2) == some S.top) = true; rw [hpt]; simpa using hw
    have e0 : pushStep c n S M = (⟨S.t, 0, S.top, S.slot⟩, (M.accW n S.t (-2) S.top (newerI S.slot S.top)).1) := by
     unfold pushStep; rw [if_neg (by omega), if_neg (by omega), if_neg (by omega), if_neg hd]
    have e1 : handStep c n t (.push S) M = (.push ⟨S.t, 0, S.top, S.slot⟩, (M.accW n S.t (-2) S.top (newerI S.slot S.top)).1) := by
     unfold handStep; simp only [e0]; rw [if_neg (by decide)]
    rw [e1]; rw [e0] at hXm hXg
    have ht2 : topW n (M.accW n S.t (-2) S.top (newerI S.slot S.top)).1 = topW n M := by unfold topW; rw [pk, if_neg (fun h => hw (Option.some.inj (hpt.symm.trans h.2)))]
    exact ⟨L, same _ _ hXm hpl ht2 haf ⟨hXg, hsl, .inl rfl, fun h => absurd rfl h, fun (h : (0 : Int) = 2) => absurd h (by decide)⟩ rfl⟩
theorem FInv.start {c : Cfg} {n m : Nat} {M : MemM} (F : FGround c n m M) (hm : (m : Int) = c.sl) (hth : 1 ≤ c.th ∧ c.th ≤ 64) : FInv c n ((List.range c.th.toNat).map fun (i : Nat) => .pop ⟨(i : Int), 0, 0, 0, -1⟩) M (rangeI m) 0 := by
 have hget : ∀ (k : Nat) h, ((List.range c.th.toNat).map fun (i : Nat) => HandM.pop ⟨(i : Int), 0, 0, 0, -1⟩)[k]? = some h → (k : Int) < c.th ∧ h = .pop ⟨(k : Int), 0, 0, 0, -1⟩ := fun k h hk => by
  rw [List.getElem?_map, Option.map_eq_some_iff] at hk
  obtain ⟨a, ha, rfl⟩ := hk
  obtain ⟨h1, h2⟩ := List.getElem?_eq_some_iff.1 ha
  rw [List.getElem_range] at h2
  subst h2
  have : k < c.th.toNat := by simpa using h1
  exact ⟨by omega, rfl⟩
 obtain ⟨w, hw, hb⟩ := F.tp
 have htop : topW n M = w := by unfold topW; rw [hw]; rfl
 refine ⟨by simp, ⟨F.good, F.pl, F.ch, rangeI_nodup m, fun s hs => by have := rangeI_mem.1 hs; omega, by rw [htop]; unfold verI; omega⟩, ?_, ?_, ?_, ?_⟩
 ·intro k h hk hn
  rw [(hget k h hk).2] at hn; exact absurd rfl hn
 ·intro k k' h h' _ hk _ hn
  rw [(hget k h hk).2] at hn; exact absurd rfl hn
 ·intro s h0 h1
  exact .inl (rangeI_mem.2 ⟨h0, by omega⟩)
 ·intro k h hk
  obtain ⟨h1, rfl⟩ := hget k h hk
  exact ⟨popInit (by show isInt (k : Int); omega), rfl, .inl rfl, fun h => absurd rfl h, fun (h : (0 : Int) = 2) => absurd h (by decide)⟩
theorem FInv.list {c : Cfg} {n : Nat} {hs : List HandM} {M : MemM} {L : List Int} {j : Nat} (I : FInv c n hs M L j) : listG c n M = (L, true) := listG_chain I.mi.ch I.mi.nd I.mi.rg
/-- the memory goes on, the list and the hands stand -/
structure MS (c : Cfg) (n : Nat) (M M' : MemM) : Prop where
 good : M'.good
 pl : M'.pass.length = M.pass.length
 top : topW n M' = topW n M
 aft : ∀ s, 0 ≤ s → s < c.sl → aftW c n M' s = aftW c n M s
theorem MS.of {c : Cfg} {n : Nat} {M M' : MemM} (hth : 1 ≤ c.th) (hg : M'.good) (hpl : M'.pass.length = M.pass.length) (h : ∀ j : Int, j < -1 → M'.peek n j = M.peek n j) : MS c n M M' :=
 ⟨hg, hpl, by unfold topW; rw [h _ (by omega)], fun s h0 h1 => by unfold aftW; rw [aft_at ⟨h0, h1⟩, h _ (by omega)]⟩
theorem FInv.mem {c : Cfg} {n : Nat} {hs : List HandM} {M M' : MemM} {L : List Int} {j : Nat} (I : FInv c n hs M L j) (h : MS c n M M') : FInv c n hs M' L (j + 1) :=
 ⟨I.len, I.mi.same h.good h.pl h.top (fun s hs => h.aft s (I.mi.rg s hs).1 (I.mi.rg s hs).2), I.held, I.dist, I.all, fun k x hk => (I.ok k x hk).keep_none h.top h.aft (top_rg I.mi)⟩
theorem log_lt {c : Cfg} (hc : cfgOk c) {t k : Int} (ht : 0 ≤ t ∧ t < c.th) (hk : 0 ≤ k ∧ k < c.lo) : lFirst c * 8 ≤ logS c t k ∧ logS c t k < sFirst c * 8 := by
 have hb := lay_bd hc
 obtain ⟨h1, _, _⟩ := log_at hc ht hk
 have h2 : 0 ≤ lsz c * t := Int.mul_nonneg (by omega) (by omega)
 have h3 : lsz c * (t + 1) ≤ lsz c * c.th := Int.mul_le_mul_of_nonneg_left (by omega) (by omega)
 have h4 : lsz c * c.th = tl c := by unfold tl; exact Int.mul_comm _ _
 have h5 : lsz c * (t + 1) = lsz c * t + lsz c := by rw [Int.mul_add, Int.mul_one]
 have h6 : lsz c = (c.lo + 7) / 8 := rfl
 rw [h1]; omega
theorem int_at {c : Cfg} (hc : cfgOk c) {t : Int} (ht : 0 ≤ t ∧ t < c.th) : intS c t = (tFirst c + t) * 8 + 1 ∧ 0 ≤ intS c t ∧ intS c t < (((lns c).toNat : Nat) : Int) * 8 ∧ intS c t < lFirst c * 8 := by
 have hb := lay_bd hc
 have h1 : intS c t = (tFirst c + 1 * t) * 8 + 1 := by unfold intS threadS wordS; rw [if_pos ht]
 unfold cfgOk at hc
 have h2 : 0 ≤ tl c := by unfold tl; exact Int.mul_nonneg (by omega) (by omega)
 omega
theorem gen_at {c : Cfg} (hc : cfgOk c) {s : Int} (hs : 0 ≤ s ∧ s < c.sl) : genS c s = (sFirst c + s) * 8 ∧ 0 ≤ genS c s ∧ genS c s < (((lns c).toNat : Nat) : Int) * 8 ∧ sFirst c * 8 ≤ genS c s := by
 have hb := lay_bd hc
 have h1 : genS c s = (sFirst c + 1 * s) * 8 + 0 := by unfold genS slotS wordS; rw [if_pos hs]
 omega
/-- all logs are empty -/
structure LogZ (c : Cfg) (M : MemM) : Prop where
 ok : M.dev.ok (lns c).toNat c.th.toNat
 lg : ∀ t k : Int, 0 ≤ t → t < c.th → 0 ≤ k → k < c.lo → M.peek (lns c).toNat (logS c t k) = some 0
section
variable {c : Cfg} {M M' : MemM} {th i w old : Int}
theorem LogZ.same (h : LogZ c M) (hok : M'.dev.ok (lns c).toNat c.th.toNat) (hc : cfgOk c) (hp : ∀ j, 0 ≤ j → M'.peek (lns c).toNat j = M.peek (lns c).toNat j) : LogZ c M' :=
 ⟨hok, fun t k h1 h2 h3 h4 => by rw [hp _ (log_at hc ⟨h1, h2⟩ ⟨h3, h4⟩).2.1]; exact h.lg t k h1 h2 h3 h4⟩
theorem LogZ.load (h : LogZ c M) : LogZ c (M.accL (lns c).toNat th i).1 := ⟨h.ok, h.lg⟩
theorem LogZ.flush (hc : cfgOk c) (h : LogZ c M) : LogZ c (M.accF (lns c).toNat c.th.toNat th i).1 := h.same (accF_ok h.ok) hc (fun _ _ => accF_pk)
theorem LogZ.fence (hc : cfgOk c) (h : LogZ c M) : LogZ c (M.accE c.th.toNat th).1 := h.same (accE_ok h.ok) hc (fun _ _ => accE_pk)
theorem LogZ.pass (hc : cfgOk c) (h : LogZ c M) (hi : i < 0) : LogZ c (M.accS (lns c).toNat th i w).1 := h.same (accS_ok h.ok) hc (fun j hj => by rw [accS_peek hi, if_neg (by omega)])
theorem LogZ.swap (hc : cfgOk c) (h : LogZ c M) (hi : i < 0) : LogZ c (M.accW (lns c).toNat th i old w).1 := h.same (accW_okN hi h.ok) hc (fun j hj => by rw [accW_peek hi, if_neg (by omega)])
theorem LogZ.put (hc : cfgOk c) (h : LogZ c M) (hi : 0 ≤ i ∧ i < (((lns c).toNat : Nat) : Int) * 8) (ho : i < lFirst c * 8 ∨ sFirst c * 8 ≤ i) : LogZ c (M.accS (lns c).toNat th i w).1 :=
 ⟨accS_ok h.ok, fun t k h1 h2 h3 h4 => by
  have hl := log_lt hc ⟨h1, h2⟩ ⟨h3, h4⟩
  rw [accS_pk h.ok.2.1 hi, if_neg (by omega)]; exact h.lg t k h1 h2 h3 h4⟩
theorem LogZ.pop (hc : cfgOk c) {S : PopS} (h : LogZ c M) : LogZ c (popStep c (lns c).toNat S M).2 := by
 unfold popStep
 split
 ·exact h
 split
 ·exact h.load
 split
 ·exact h.load
 split
 ·exact h.swap hc (by omega)
 ·exact h.swap hc (by omega)
theorem LogZ.push (hc : cfgOk c) {S : PushS} (hs : 0 ≤ S.slot ∧ S.slot < c.sl) (h : LogZ c M) : LogZ c (pushStep c (lns c).toNat S M).2 := by
 have hth : 1 ≤ c.th := by unfold cfgOk at hc; omega
 unfold pushStep
 split
 ·exact h
 split
 ·exact h.load
 split
 ·rw [aft_at hs]; exact h.pass hc (by omega)
 split
 ·exact h.swap hc (by omega)
 ·exact h.swap hc (by omega)
theorem LogZ.adv (hc : cfgOk c) {S : AdvS} (h : LogZ c M) : LogZ c (advStep c (lns c).toNat S M).2 := by
 unfold advStep
 split
 ·exact h
 split
 ·exact h.load
 split
 ·exact h.load
 ·exact h.swap hc (by omega)
theorem MS.load (hth : 1 ≤ c.th) (h : M.good) : MS c (lns c).toNat M (M.accL (lns c).toNat th i).1 := .of hth (accL_good h).1 rfl (fun _ _ => rfl)
theorem MS.adv (hc : cfgOk c) {S : AdvS} (hS : S.good) (h : M.good) : MS c (lns c).toNat M (advStep c (lns c).toNat S M).2 := by
 have hth : 1 ≤ c.th := by unfold cfgOk at hc; omega
 obtain ⟨_, hg⟩ := advStep_good (n := (lns c).toNat) hc hS h
 refine .of hth hg ?_ ?_
 ·unfold advStep
  split
  ·rfl
  split
  ·rfl
  split
  ·rfl
  ·exact accW_pass
 ·intro j hj
  unfold advStep
  split
  ·rfl
  split
  ·rfl
  split
  ·rfl
  ·show (M.accW (lns c).toNat S.t (-1) S.now (inc64 S.now)).1.peek _ j = _
   rw [accW_peek (by omega), if_neg (by omega)]
theorem MS.put (hth : 1 ≤ c.th) (h : M.good) (hok : M.dev.ok (lns c).toNat c.th.toNat) (hi : 0 ≤ i ∧ i < (((lns c).toNat : Nat) : Int) * 8) (hw : isW w) : MS c (lns c).toNat M (M.accS (lns c).toNat th i w).1 :=
 .of hth (accS_good h hw) accS_pass (fun j hj => by rw [accS_pk hok.2.1 hi, if_neg (by omega)])
end
inductive HandA where
 | nil
 | tk (S : TkS)
 | gv (S : GvS)
def HandA.abs : HandA → HandM
 | .nil => .nil
 | .tk S => if S.part = 1 ∨ S.part = 4 then .pop S.pop else if S.part = 2 ∨ S.part = 3 then .pop ⟨S.t, 0, 0, 0, -1⟩ else .push ⟨S.t, 0, 0, S.slot⟩
 | .gv S => if S.part = 1 then .push ⟨S.t, 0, 0, S.slot⟩ else .push S.push
theorem abs_tk (S : TkS) : (HandA.tk S).abs = if S.part = 1 ∨ S.part = 4 then .pop S.pop else if S.part = 2 ∨ S.part = 3 then .pop ⟨S.t, 0, 0, 0, -1⟩ else .push ⟨S.t, 0, 0, S.slot⟩ := rfl
def HandA.held (h : HandA) : Int := h.abs.held
def HandA.ok (c : Cfg) (t : Int) : HandA → Prop
 | .nil => False
 | .tk S => S.t = t ∧ S.good c ∧ isInt S.pop.slot ∧ ¬ S.part = 0 ∧ (S.part = 3 → S.rc.t = t ∧ (S.rc.pc = 0 ∨ S.rc.pc = 1))
 | .gv S => S.t = t ∧ S.good ∧ ¬ S.part = 0 ∧ (S.part = 2 → S.push.slot = S.slot)
def armStep (c : Cfg) (n nt : Nat) (t : Int) : HandA → MemM → HandA × MemM
 | .nil, M => (.nil, M)
 | .tk S, M => (if (tkStep c n nt S M).1.part = 0 then (if (tkStep c n nt S M).1.slot = -1 then .tk (tkInit t) else .gv ⟨t, 1, (tkStep c n nt S M).1.slot, ⟨0, 0, 0, 0⟩⟩) else .tk (tkStep c n nt S M).1, (tkStep c n nt S M).2)
 | .gv S, M => (if (gvStep c n S M).1.part = 0 then .tk (tkInit t) else .gv (gvStep c n S M).1, (gvStep c n S M).2)
/-- the hands, the list, the logs -/
structure AInv (c : Cfg) (hs : List HandA) (M : MemM) (L : List Int) (j : Nat) : Prop where
 f : FInv c (lns c).toNat (hs.map HandA.abs) M L j
 z : LogZ c M
 ok : ∀ (k : Nat) h, hs[k]? = some h → h.ok c (k : Int)
section
variable {c : Cfg} {hs : List HandA} {M M' : MemM} {L L' : List Int} {j k : Nat} {h0 h2 : HandA}
theorem set_okA (ok : ∀ (k : Nat) h, hs[k]? = some h → HandA.ok c (k : Int) h) (h2o : h2.ok c (k : Int)) : ∀ (k' : Nat) h, (hs.set k h2)[k']? = some h → h.ok c (k' : Int) := fun k' h hh => by
 rw [List.getElem?_set] at hh
 by_cases hkk : k = k'
 ·subst hkk
  rw [if_pos rfl] at hh
  split at hh
  ·cases hh; exact h2o
  ·cases hh
 ·rw [if_neg hkk] at hh; exact ok k' h hh
theorem AInv.put (I : AInv c hs M L j) (hf : FInv c (lns c).toNat ((hs.map HandA.abs).set k h2.abs) M' L' (j + 1)) (hz : LogZ c M') (h2o : h2.ok c (k : Int)) : AInv c (hs.set k h2) M' L' (j + 1) :=
 ⟨by rw [List.map_set]; exact hf, hz, set_okA I.ok h2o⟩
theorem AInv.idle (I : AInv c hs M L j) (hk : hs[k]? = some h0) (ha : h2.abs = h0.abs) (hm : MS c (lns c).toNat M M') (hz : LogZ c M') (h2o : h2.ok c (k : Int)) : AInv c (hs.set k h2) M' L (j + 1) := by
 refine I.put ?_ hz h2o
 have e : (hs.map HandA.abs).set k h2.abs = hs.map HandA.abs := by
  rw [ha, ← List.map_set]
  congr 1
  obtain ⟨h1, h3⟩ := List.getElem?_eq_some_iff.1 hk
  rw [← h3]; exact List.set_getElem_self h1
 rw [e]
 exact I.f.mem hm
theorem AInv.nextA (hc : cfgOk c) (h30 : c.sl ≤ 30) (I : AInv c hs M L j) (hj : j ≤ 1000) (hk : hs[k]? = some h0) :
  ∃ L', FInv c (lns c).toNat ((hs.map HandA.abs).set k (handStep c (lns c).toNat (k : Int) h0.abs M).1) (handStep c (lns c).toNat (k : Int) h0.abs M).2 L' (j + 1) := by
 have hl := I.f.len
 rw [List.length_map] at hl
 have hkl := (List.getElem?_eq_some_iff.1 hk).1
 unfold cfgOk at hc
 exact FInv.next (t := (k : Int)) (by omega) (by omega) I.f hj (by rw [List.getElem?_map, hk]; rfl)
theorem pushStep_slotA {c : Cfg} {n : Nat} {S : PushS} {M : MemM} : (pushStep c n S M).1.slot = S.slot := by
 unfold pushStep
 (repeat' split) <;> rfl
theorem pop_empty {n : Nat} {S : PopS} (hok : HOk c n M (.pop S)) (h3 : (popStep c n S M).1.pc = 3) (hs : (popStep c n S M).1.slot = -1) : toI (topW n (popStep c n S M).2) = -1 := by
 obtain ⟨hSg, hsl, hpc, htop, hnx⟩ := hok
 rcases hpc with hpc | hpc | hpc
 ·have e0 : popStep c n S M = (⟨S.t, if toI (topW n M) = -1 then 3 else 1, topW n M, S.next, S.slot⟩, (M.accL n S.t (-2)).1) := by
   unfold popStep; rw [if_neg (by omega), if_pos hpc]; rfl
  rw [e0] at h3 ⊢
  show toI (topW n M) = -1
  by_cases h : toI (topW n M) = -1
  ·exact h
  ·have h3 : (if toI (topW n M) = -1 then (3 : Int) else 1) = 3 := h3
   rw [if_neg h] at h3; omega
 ·have e0 : popStep c n S M = (⟨S.t, 2, S.top, aftW c n M (toI S.top), S.slot⟩, (M.accL n S.t (aftS c (toI S.top))).1) := by
   unfold popStep; rw [if_neg (by omega), if_neg (by omega), if_pos hpc]; rfl
  rw [e0] at h3
  have h3 : (2 : Int) = 3 := h3
  omega
 ·have hn := (htop (by omega)).2
  unfold popStep at h3 hs
  rw [if_neg (by omega), if_neg (by omega), if_neg (by omega)] at h3 hs
  split at hs
  ·exact absurd hs hn
  ·rename_i hd
   rw [if_neg hd] at h3
   have h3 : (0 : Int) = 3 := h3
   omega
theorem nil_of_top {n : Nat} (I : MInv c n M L j) (h : toI (topW n M) = -1) : L = [] := by
 have hch := I.ch
 cases L with
 | nil => rfl
 | cons s L =>
  have h1 : toI (topW n M) = s := hch.1
  have := I.rg s (by simp)
  omega
theorem tkInit_hand {t : Int} (hc : cfgOk c) (h : isInt t) : HandA.ok c t (.tk (tkInit t)) := ⟨rfl, tkInit_good hc h, by show isInt (-1); omega, by show ¬ (1 : Int) = 0; decide, fun h => by have h : (1 : Int) = 3 := h; omega⟩
theorem AInv.next (hc : cfgOk c) (h30 : c.sl ≤ 30) (I : AInv c hs M L j) (hj : j ≤ 1000) (hk : hs[k]? = some h0) :
  ∃ L', AInv c (hs.set k (armStep c (lns c).toNat c.th.toNat (k : Int) h0 M).1) (armStep c (lns c).toNat c.th.toNat (k : Int) h0 M).2 L' (j + 1) ∧
   (∀ S, h0 = .tk S → (tkStep c (lns c).toNat c.th.toNat S M).1.part = 0 → (tkStep c (lns c).toNat c.th.toNat S M).1.slot = -1 → L' = [] ∧ (tkStep c (lns c).toNat c.th.toNat S M).1.empty = (tkStep c (lns c).toNat c.th.toNat S M).2.clock) := by
 have hko := I.ok k h0 hk
 have hMg := I.f.mi.good
 have hl := I.f.len
 rw [List.length_map] at hl
 have hkl := (List.getElem?_eq_some_iff.1 hk).1
 have hcc := hc
 unfold cfgOk at hcc
 have hth : 1 ≤ c.th := by omega
 have hkt : 0 ≤ (k : Int) ∧ (k : Int) < c.th := by omega
 have hki : isInt (k : Int) := by omega
 have hfo := I.f.ok k h0.abs (by rw [List.getElem?_map, hk]; rfl)
 have hfh := I.f.held k h0.abs (by rw [List.getElem?_map, hk]; rfl)
 obtain ⟨LA, hLA⟩ := I.nextA hc h30 hj hk
 cases h0 with
 | nil => exact hko.elim
 | tk S =>
  obtain ⟨hS, hSg, hps, hp0, hp3⟩ := hko
  have hpp := hSg.part
  obtain ⟨hXg, hXm⟩ := tkStep_good (c := c) hc (n := (lns c).toNat) (nt := c.th.toNat) hSg hps hMg
  have noend : ∀ {X : TkS × MemM} {L' : List Int}, tkStep c (lns c).toNat c.th.toNat S M = X → ¬ X.1.part = 0 → AInv c (hs.set k (.tk X.1)) X.2 L' (j + 1) →
    ∃ L', AInv c (hs.set k (armStep c (lns c).toNat c.th.toNat (k : Int) (.tk S) M).1) (armStep c (lns c).toNat c.th.toNat (k : Int) (.tk S) M).2 L' (j + 1) ∧
    (∀ S', HandA.tk S = .tk S' → (tkStep c (lns c).toNat c.th.toNat S' M).1.part = 0 → (tkStep c (lns c).toNat c.th.toNat S' M).1.slot = -1 → L' = [] ∧ (tkStep c (lns c).toNat c.th.toNat S' M).1.empty = (tkStep c (lns c).toNat c.th.toNat S' M).2.clock) := by
   intro X L' e hn hA
   refine ⟨L', ?_, fun S' hh hh2 => ?_⟩
   ·show AInv c (hs.set k (if (tkStep c (lns c).toNat c.th.toNat S M).1.part = 0 then _ else .tk (tkStep c (lns c).toNat c.th.toNat S M).1)) (tkStep c (lns c).toNat c.th.toNat S M).2 L' (j + 1)
    rw [e, if_neg hn]; exact hA
   ·cases hh; rw [e] at hh2; exact absurd hh2 hn
  by_cases h14 : S.part = 1 ∨ S.part = 4
  ·
   have habs : (HandA.tk S).abs = .pop S.pop := if_pos h14
   rw [habs] at hLA hfo
   have e := tkS1 (c := c) (n := (lns c).toNat) (nt := c.th.toNat) (M := M) h14
   rw [e] at hXg hXm
   have hz := I.z.pop hc (S := S.pop)
   have hpt : (popStep c (lns c).toNat S.pop M).1.slot = (popStep c (lns c).toNat S.pop M).1.slot := rfl
   have hsI : isInt (popStep c (lns c).toNat S.pop M).1.slot := popStep_slot hps
   have hstp : handStep c (lns c).toNat (k : Int) (.pop S.pop) M = (if (popStep c (lns c).toNat S.pop M).1.pc = 3 then (if (popStep c (lns c).toNat S.pop M).1.slot = -1 then .pop ⟨(k : Int), 0, 0, 0, -1⟩ else .push ⟨(k : Int), 0, 0, (popStep c (lns c).toNat S.pop M).1.slot⟩) else .pop (popStep c (lns c).toNat S.pop M).1, (popStep c (lns c).toNat S.pop M).2) := rfl
   rw [hstp] at hLA
   by_cases hpc : (popStep c (lns c).toNat S.pop M).1.pc = 3
   ·rw [if_pos hpc] at hLA
    by_cases hsl : (popStep c (lns c).toNat S.pop M).1.slot = -1
    ·rw [if_pos hsl] at hLA
     by_cases hag : S.again = true
     ·have e2 : tkPop S (popStep c (lns c).toNat S.pop M).1 (popStep c (lns c).toNat S.pop M).2.clock = ⟨S.t, 0, S.again, -1, S.gen, (popStep c (lns c).toNat S.pop M).2.clock, (popStep c (lns c).toNat S.pop M).1, S.adv, S.rc⟩ := by
       unfold tkPop; rw [if_pos hpc, if_neg (fun h => h hsl), if_pos hag]
      rw [e2] at e
      refine ⟨LA, ?_, fun S' hh _ _ => ?_⟩
      ·show AInv c (hs.set k (if (tkStep c (lns c).toNat c.th.toNat S M).1.part = 0 then (if (tkStep c (lns c).toNat c.th.toNat S M).1.slot = -1 then .tk (tkInit (k : Int)) else _) else _)) (tkStep c (lns c).toNat c.th.toNat S M).2 LA (j + 1)
       rw [e, if_pos rfl, if_pos rfl]
       exact I.put hLA hz (tkInit_hand hc hki)
      ·cases hh
       rw [e]
       exact ⟨nil_of_top hLA.mi (pop_empty hfo hpc hsl), rfl⟩
     ·have e2 : tkPop S (popStep c (lns c).toNat S.pop M).1 (popStep c (lns c).toNat S.pop M).2.clock = ⟨S.t, 2, true, -1, S.gen, S.empty, (popStep c (lns c).toNat S.pop M).1, tkAdv0 S.t, S.rc⟩ := by
       unfold tkPop; rw [if_pos hpc, if_neg (fun h => h hsl), if_neg hag]
      rw [e2] at e hXg
      refine noend (L' := LA) e (by show ¬ (2 : Int) = 0; decide) (I.put ?_ hz ⟨hS, hXg, hsI, by show ¬ (2 : Int) = 0; decide, fun h => by have h : (2 : Int) = 3 := h; omega⟩)
      rw [show (HandA.tk ⟨S.t, 2, true, -1, S.gen, S.empty, (popStep c (lns c).toNat S.pop M).1, tkAdv0 S.t, S.rc⟩).abs = .pop ⟨(k : Int), 0, 0, 0, -1⟩ by
       rw [abs_tk, if_neg (by show ¬ ((2 : Int) = 1 ∨ (2 : Int) = 4); decide), if_pos (by show (2 : Int) = 2 ∨ (2 : Int) = 3; decide)]; rw [← hS]]
      exact hLA
    ·rw [if_neg hsl] at hLA
     have e2 : tkPop S (popStep c (lns c).toNat S.pop M).1 (popStep c (lns c).toNat S.pop M).2.clock = ⟨S.t, 5, S.again, (popStep c (lns c).toNat S.pop M).1.slot, S.gen, S.empty, (popStep c (lns c).toNat S.pop M).1, S.adv, S.rc⟩ := by
      unfold tkPop; rw [if_pos hpc, if_pos hsl]
     rw [e2] at e hXg
     refine noend (L' := LA) e (by show ¬ (5 : Int) = 0; decide) (I.put ?_ hz ⟨hS, hXg, hsI, by show ¬ (5 : Int) = 0; decide, fun h => by have h : (5 : Int) = 3 := h; omega⟩)
     rw [show (HandA.tk ⟨S.t, 5, S.again, (popStep c (lns c).toNat S.pop M).1.slot, S.gen, S.empty, (popStep c (lns c).toNat S.pop M).1, S.adv, S.rc⟩).abs = .push ⟨(k : Int), 0, 0, (popStep c (lns c).toNat S.pop M).1.slot⟩ by
      rw [abs_tk, if_neg (by show ¬ ((5 : Int) = 1 ∨ (5 : Int) = 4); decide), if_neg (by show ¬ ((5 : Int) = 2 ∨ (5 : Int) = 3); decide)]; rw [← hS]]
     exact hLA
   ·rw [if_neg hpc] at hLA
    have e2 : tkPop S (popStep c (lns c).toNat S.pop M).1 (popStep c (lns c).toNat S.pop M).2.clock = ⟨S.t, S.part, S.again, S.slot, S.gen, S.empty, (popStep c (lns c).toNat S.pop M).1, S.adv, S.rc⟩ := if_neg hpc
    rw [e2] at e hXg
    refine noend (L' := LA) e hp0 (I.put ?_ hz ⟨hS, hXg, hsI, hp0, fun h => by have h : S.part = 3 := h; omega⟩)
    rw [show (HandA.tk ⟨S.t, S.part, S.again, S.slot, S.gen, S.empty, (popStep c (lns c).toNat S.pop M).1, S.adv, S.rc⟩).abs = .pop (popStep c (lns c).toNat S.pop M).1 from if_pos h14]
    exact hLA
  by_cases h2 : S.part = 2
  ·have habs : (HandA.tk S).abs = .pop ⟨S.t, 0, 0, 0, -1⟩ := by rw [abs_tk, if_neg h14, if_pos (by omega)]
   have e := tkS2 (c := c) (n := (lns c).toNat) (nt := c.th.toNat) (M := M) h2
   rw [e] at hXg hXm
   have hz := I.z.adv hc (S := S.adv)
   have hms := MS.adv hc (M := M) hSg.adv hMg
   generalize advStep c (lns c).toNat S.adv M = A at e hXg hXm hz hms
   by_cases hd : A.1.done = true
   ·have e2 : tkAdv S A.1 = ⟨S.t, 3, S.again, S.slot, S.gen, S.empty, S.pop, A.1, tkRec0 S.t⟩ := if_pos hd
    rw [e2] at e hXg
    refine noend e (by show ¬ (3 : Int) = 0; decide) (I.idle hk ?_ hms hz ⟨hS, hXg, hps, by show ¬ (3 : Int) = 0; decide, fun _ => ⟨hS, .inl rfl⟩⟩)
    rw [habs]; rw [abs_tk, if_neg (by show ¬ ((3 : Int) = 1 ∨ (3 : Int) = 4); decide), if_pos (by show (3 : Int) = 2 ∨ (3 : Int) = 3; decide)]
   ·have e2 : tkAdv S A.1 = ⟨S.t, S.part, S.again, S.slot, S.gen, S.empty, S.pop, A.1, S.rc⟩ := if_neg hd
    rw [e2] at e hXg
    refine noend e hp0 (I.idle hk ?_ hms hz ⟨hS, hXg, hps, hp0, fun h => by have h : S.part = 3 := h; omega⟩)
    rfl
  by_cases h3 : S.part = 3
  ·have habs : (HandA.tk S).abs = .pop ⟨S.t, 0, 0, 0, -1⟩ := by rw [abs_tk, if_neg h14, if_pos (by omega)]
   obtain ⟨hrt, hrp⟩ := hp3 h3
   have e := tkS3 (c := c) (n := (lns c).toNat) (nt := c.th.toNat) (M := M) h3
   rw [e] at hXg hXm
   have hrg := hSg.rc
   have hrs : ∃ (R : RecS) (i : Int), recStep c (lns c).toNat S.rc M = (R, (M.accL (lns c).toNat S.rc.t i).1) ∧ R.t = (k : Int) ∧ (R.pc = 1 ∨ R.pc = 5) := by
    rcases hrp with hr | hr
    ·exact ⟨⟨S.rc.t, 1, (M.accL (lns c).toNat S.rc.t (-1)).2.old, S.rc.next, S.rc.slot, S.rc.count, S.rc.push⟩, -1, by unfold recStep; rw [if_neg (by omega), if_pos hr], hrt, .inl rfl⟩
    ·have hnx : S.rc.next < c.lo := by rcases hrg.2.2.2.2.2 with h | h | h | h | h <;> omega
     have hold : ¬ recOld S.rc.now (recLd c (lns c).toNat S.rc M).2.old := by
      rw [show (recLd c (lns c).toNat S.rc M).2.old = 0 by
       show (M.peek (lns c).toNat (logS c S.rc.t S.rc.next)).getD 0 = 0
       rw [I.z.lg _ _ (by omega) (by omega) hrg.2.2.2.1.1 hnx]; rfl]
      exact fun h => h.1 rfl
     refine ⟨⟨S.rc.t, onPc c (S.rc.next + 1), S.rc.now, S.rc.next + 1, S.rc.slot, S.rc.count, S.rc.push⟩, logS c S.rc.t S.rc.next, by unfold recStep; rw [if_neg (by omega), if_neg (by omega), if_pos hr]; unfold recLook; rw [if_neg hold]; rfl, hrt, ?_⟩
     show onPc c (S.rc.next + 1) = 1 ∨ onPc c (S.rc.next + 1) = 5
     unfold onPc; split
     ·exact .inl rfl
     ·exact .inr rfl
   obtain ⟨R, i, er, hRt, hRp⟩ := hrs
   rw [er] at e hXg hXm
   have hz : LogZ c (M.accL (lns c).toNat S.rc.t i).1 := I.z.load
   have hms : MS c (lns c).toNat M (M.accL (lns c).toNat S.rc.t i).1 := MS.load hth hMg
   by_cases hd : R.done = true
   ·have e2 : tkRec S R = ⟨S.t, 4, S.again, S.slot, S.gen, S.empty, tkPop0 S.t, S.adv, R⟩ := if_pos hd
    rw [e2] at e hXg
    refine noend e (by show ¬ (4 : Int) = 0; decide) (I.idle hk ?_ hms hz ⟨hS, hXg, by show isInt (-1); omega, by show ¬ (4 : Int) = 0; decide, fun h => by have h : (4 : Int) = 3 := h; omega⟩)
    rw [habs]; rfl
   ·have e2 : tkRec S R = ⟨S.t, S.part, S.again, S.slot, S.gen, S.empty, S.pop, S.adv, R⟩ := if_neg hd
    rw [e2] at e hXg
    have hn5 : ¬ R.pc = 5 := fun h => hd (decide_eq_true h)
    refine noend e hp0 (I.idle hk ?_ hms hz ⟨hS, hXg, hps, hp0, fun _ => ⟨hRt, .inr (hRp.resolve_right hn5)⟩⟩)
    rfl
  -- it holds a slot
  have hp5 : 5 ≤ S.part := by omega
  have habs : (HandA.tk S).abs = .push ⟨S.t, 0, 0, S.slot⟩ := by rw [abs_tk, if_neg h14, if_neg (by omega)]
  rw [habs] at hfh
  have hsl : 0 ≤ S.slot ∧ S.slot < c.sl := by have := hfh (hSg.sp.2 hp5); exact ⟨this.1, this.2.1⟩
  have hto : ∀ {q : Int} {g : Int}, 6 ≤ q → (HandA.tk ⟨S.t, q, S.again, S.slot, g, S.empty, S.pop, S.adv, S.rc⟩).abs = (HandA.tk S).abs := fun h => by
   rw [habs]; rw [abs_tk, if_neg (by show ¬ (_ ∨ _); simp only; omega), if_neg (by simp only; omega)]
  obtain ⟨hi1, hi2, hi3, hi4⟩ := int_at hc (t := (k : Int)) hkt
  obtain ⟨hg1, hg2, hg3, hg4⟩ := gen_at hc hsl
  by_cases h5 : S.part = 5
  ·have e := tkS5 (c := c) (n := (lns c).toNat) (nt := c.th.toNat) (M := M) h5
   rw [e] at hXg
   rw [hS] at e
   exact noend e (by show ¬ (6 : Int) = 0; decide) (I.idle hk (hto (by omega)) (MS.put hth hMg I.z.ok ⟨hi2, hi3⟩ (more_w _)) (I.z.put hc ⟨hi2, hi3⟩ (.inl hi4)) ⟨hS, hXg, hps, by show ¬ (6 : Int) = 0; decide, fun h => by have h : (6 : Int) = 3 := h; omega⟩)
  by_cases h6 : S.part = 6
  ·have e := tkS6 (c := c) (n := (lns c).toNat) (nt := c.th.toNat) (M := M) h6
   rw [e] at hXg
   exact noend e (by show ¬ (7 : Int) = 0; decide) (I.idle hk (hto (by omega)) (.of hth (accF_goodA hMg) accF_pass (fun _ _ => accF_pk)) (I.z.flush hc) ⟨hS, hXg, hps, by show ¬ (7 : Int) = 0; decide, fun h => by have h : (7 : Int) = 3 := h; omega⟩)
  by_cases h7 : S.part = 7
  ·have e := tkS7 (c := c) (n := (lns c).toNat) (nt := c.th.toNat) (M := M) h7
   rw [e] at hXg
   exact noend e (by show ¬ (8 : Int) = 0; decide) (I.idle hk (hto (by omega)) (.of hth (accE_goodA hMg) accE_pass (fun _ _ => accE_pk)) (I.z.fence hc) ⟨hS, hXg, hps, by show ¬ (8 : Int) = 0; decide, fun h => by have h : (8 : Int) = 3 := h; omega⟩)
  by_cases h8 : S.part = 8
  ·have e := tkS8 (c := c) (n := (lns c).toNat) (nt := c.th.toNat) (M := M) h8
   rw [e] at hXg
   exact noend e (by show ¬ (9 : Int) = 0; decide) (I.idle hk (hto (by omega)) (MS.load hth hMg) I.z.load ⟨hS, hXg, hps, by show ¬ (9 : Int) = 0; decide, fun h => by have h : (9 : Int) = 3 := h; omega⟩)
  ·have h9 : S.part = 9 := by omega
   have e := tkS9 (c := c) (n := (lns c).toNat) (nt := c.th.toNat) (M := M) h9
   have hsn : ¬ S.slot = -1 := hSg.sp.2 hp5
   refine ⟨L, ?_, fun S' hh _ hs2 => ?_⟩
   ·show AInv c (hs.set k (if (tkStep c (lns c).toNat c.th.toNat S M).1.part = 0 then (if (tkStep c (lns c).toNat c.th.toNat S M).1.slot = -1 then _ else .gv ⟨(k : Int), 1, (tkStep c (lns c).toNat c.th.toNat S M).1.slot, ⟨0, 0, 0, 0⟩⟩) else _)) (tkStep c (lns c).toNat c.th.toNat S M).2 L (j + 1)
    rw [e]
    show AInv c (hs.set k (if (0 : Int) = 0 then (if S.slot = -1 then _ else .gv ⟨(k : Int), 1, S.slot, ⟨0, 0, 0, 0⟩⟩) else _)) _ L (j + 1)
    rw [if_pos rfl, if_neg hsn]
    refine I.idle hk ?_ (MS.put hth hMg I.z.ok ⟨hg2, hg3⟩ (inc64_w _)) (I.z.put hc ⟨hg2, hg3⟩ (.inr hg4)) ⟨rfl, ⟨hki, .inr (.inl rfl), hSg.slot, ⟨by show isInt 0; omega, isW00, by show isInt 0; omega⟩⟩, by show ¬ (1 : Int) = 0; decide, fun h => by have h : (1 : Int) = 2 := h; omega⟩
    rw [habs, hS]; rfl
   ·cases hh
    rw [e] at hs2
    exact absurd hs2 hsn
 | gv S =>
  obtain ⟨hS, hSg, hp0, hp2⟩ := hko
  obtain ⟨hXg, hXm⟩ := gvStep_good (c := c) (n := (lns c).toNat) hSg hMg
  obtain ⟨hi1, hi2, hi3, hi4⟩ := int_at hc (t := (k : Int)) hkt
  have hpp := hSg.part
  by_cases h1 : S.part = 1
  ·have e : gvStep c (lns c).toNat S M = (⟨S.t, 2, S.slot, ⟨S.t, 0, 0, S.slot⟩⟩, (M.accS (lns c).toNat S.t (intS c S.t) 0).1) := by unfold gvStep; rw [if_neg hp0, if_pos h1]
   refine ⟨L, ?_, fun S' hh => by cases hh⟩
   show AInv c (hs.set k (if (gvStep c (lns c).toNat S M).1.part = 0 then _ else .gv (gvStep c (lns c).toNat S M).1)) (gvStep c (lns c).toNat S M).2 L (j + 1)
   rw [e] at hXg ⊢
   rw [if_neg (by show ¬ (2 : Int) = 0; decide)]
   rw [hS] at hXg ⊢
   refine I.idle hk ?_ (MS.put hth hMg I.z.ok ⟨hi2, hi3⟩ isW00) (I.z.put hc ⟨hi2, hi3⟩ (.inl hi4)) ⟨rfl, hXg, by show ¬ (2 : Int) = 0; decide, fun _ => rfl⟩
   show _ = (if S.part = 1 then _ else _)
   rw [if_pos h1, hS]; rfl
  ·have h2 : S.part = 2 := by omega
   have habs : (HandA.gv S).abs = .push S.push := if_neg h1
   rw [habs] at hLA hfh
   have hps := hp2 h2
   have hfo2 : HOk c (lns c).toNat M (.push S.push) := by rw [← habs]; exact hfo
   have hz := I.z.push hc (S := S.push) hfo2.2.1
   have e : gvStep c (lns c).toNat S M = (⟨S.t, if (pushStep c (lns c).toNat S.push M).1.pc = 3 then 0 else 2, S.slot, (pushStep c (lns c).toNat S.push M).1⟩, (pushStep c (lns c).toNat S.push M).2) := by unfold gvStep; rw [if_neg hp0, if_neg h1]
   have hstp : handStep c (lns c).toNat (k : Int) (.push S.push) M = (if (pushStep c (lns c).toNat S.push M).1.pc = 3 then .pop ⟨(k : Int), 0, 0, 0, -1⟩ else .push (pushStep c (lns c).toNat S.push M).1, (pushStep c (lns c).toNat S.push M).2) := rfl
   rw [hstp] at hLA
   refine ⟨LA, ?_, fun S' hh => by cases hh⟩
   show AInv c (hs.set k (if (gvStep c (lns c).toNat S M).1.part = 0 then .tk (tkInit (k : Int)) else .gv (gvStep c (lns c).toNat S M).1)) (gvStep c (lns c).toNat S M).2 LA (j + 1)
   rw [e] at hXg ⊢
   by_cases hpc : (pushStep c (lns c).toNat S.push M).1.pc = 3
   ·rw [if_pos hpc] at hLA
    rw [if_pos (by show (if _ then (0 : Int) else 2) = 0; rw [if_pos hpc])]
    exact I.put hLA hz (tkInit_hand hc hki)
   ·rw [if_neg hpc] at hLA
    have e2 : (if (pushStep c (lns c).toNat S.push M).1.pc = 3 then (0 : Int) else 2) = 2 := if_neg hpc
    rw [e2] at hXg ⊢
    rw [if_neg (by show ¬ (2 : Int) = 0; decide)]
    refine I.put ?_ hz ⟨hS, hXg, by show ¬ (2 : Int) = 0; decide, fun _ => ?_⟩
    ·rw [show (HandA.gv ⟨S.t, 2, S.slot, (pushStep c (lns c).toNat S.push M).1⟩).abs = .push (pushStep c (lns c).toNat S.push M).1 from rfl]
     exact hLA
    ·show (pushStep c (lns c).toNat S.push M).1.slot = S.slot
     rw [← hps]; exact pushStep_slotA
end
end Go.Proofs.YtbfafebfkdbglaaGreat
