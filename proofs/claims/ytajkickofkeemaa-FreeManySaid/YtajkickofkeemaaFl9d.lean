/- Layer 9: free lists as chains; several hands: the plain law. -/
import Derived.Test.YtajkickofkeemaaFl9
import Derived.Test.YtajkickofkeemaaFl10b
namespace Go.Proofs.Ytajkickofkeemaa
open Go.RowKit
set_option linter.unusedVariables false
attribute [local irreducible] K.KW K.RW K.DW K.OW K.QR K.KC
def ChainF (f : Int → Int) : Int → List Int → Prop
 | w, [] => toI w = -1
 | w, s :: L => toI w = s ∧ ChainF f (f s) L
theorem ChainF.ext {f g : Int → Int} : ∀ {L : List Int} {w : Int}, (∀ s ∈ L, f s = g s) → ChainF f w L → ChainF g w L
 | [], _, _, h => h
 | s :: L, w, he, h => ⟨h.1, by rw [← he s (by simp)]; exact ChainF.ext (fun x hx => he x (by simp [hx])) h.2⟩
theorem ChainF.word {f : Int → Int} {w w' : Int} : ∀ {L : List Int}, toI w = toI w' → ChainF f w L → ChainF f w' L
 | [], e, h => e.symm.trans h
 | s :: L, e, h => ⟨e.symm.trans h.1, h.2⟩
def aftW (c : Cfg) (n : Nat) (M : MemM) (s : Int) : Int := (M.peek n (aftS c s)).getD 0
def topW (n : Nat) (M : MemM) : Int := (M.peek n (-2)).getD 0
theorem listC_chain {c : Cfg} {n : Nat} {M : MemM} : ∀ (L : List Int) (m : Nat) (o : List Int) (w : Int), ChainF (aftW c n M) w L → (o ++ L).Nodup → (∀ s ∈ L, 0 ≤ s ∧ s < c.sl) → L.length < m → listC c n M m o w = (o ++ L, true)
 | [], m, o, w, h, _, _, hm => by rw [listC_end (by simpa using hm) h, List.append_nil]
 | s :: L, 0, o, w, _, _, _, hm => by simp at hm
 | s :: L, m + 1, o, w, h, hn, hr, hm => by
  have hs := hr s (by simp)
  have hno : ¬ s ∈ o := fun hx => (List.nodup_append.1 hn).2.2 s hx s (by simp) rfl
  rw [listC_on rfl (by rw [h.1]; omega) (by rw [h.1]; omega) (by rw [h.1]; exact hno), h.1]
  have := listC_chain L m (o ++ [s]) ((M.peek n (aftS c s)).getD 0) h.2 (by simpa using hn) (fun x hx => hr x (by simp [hx])) (by simpa using hm)
  rw [this, List.append_assoc]; rfl
theorem listG_chain {c : Cfg} {n : Nat} {M : MemM} {L : List Int} (h : ChainF (aftW c n M) (topW n M) L) (hn : L.Nodup) (hr : ∀ s ∈ L, 0 ≤ s ∧ s < c.sl) : listG c n M = (L, true) := by
 have hl := nodup_le c.sl.toNat L hn (fun y hy => by have := hr y hy; omega)
 unfold listG
 exact listC_chain L _ [] _ h (by simpa using hn) hr (by omega)
def rangeI (m : Nat) : List Int := (List.range m).map fun (i : Nat) => (i : Int)
theorem rangeI_succ (m : Nat) : rangeI (m + 1) = rangeI m ++ [(m : Int)] := by unfold rangeI; rw [List.range_succ, List.map_append]; rfl
theorem rangeI_len (m : Nat) : (rangeI m).length = m := by simp [rangeI]
theorem rangeI_get {m j : Nat} (h : j < m) : (rangeI m).getD j 0 = (j : Int) := by simp [rangeI, h]
theorem rangeI_mem {m : Nat} {x : Int} : x ∈ rangeI m ↔ 0 ≤ x ∧ x < m := by
 unfold rangeI
 rw [List.mem_map]
 constructor
 ·rintro ⟨i, hi, rfl⟩; have := List.mem_range.1 hi; omega
 ·intro h; exact ⟨x.toNat, List.mem_range.2 (by omega), by omega⟩
theorem rangeI_nodup (m : Nat) : (rangeI m).Nodup := by
 unfold rangeI
 exact (List.nodup_range).map _ (fun a b hne he => hne (by exact Int.ofNat.inj he))
theorem numW_small {x : Int} (h : 0 ≤ x ∧ x ≤ 1000) : numW x = x + 1 := by unfold numW; rw [wrapU, wrapU]; omega
theorem aft_at {c : Cfg} {s : Int} (h : 0 ≤ s ∧ s < c.sl) : aftS c s = -3 - c.th - s := aft_in' h
where aft_in' {c : Cfg} {s : Int} (h : 0 ≤ s ∧ s < c.sl) : aftS c s = -3 - c.th - s := by unfold aftS; rw [if_pos h]
/-- the memory behind so many rows of a free list 0, 1, 2, .. -/
theorem rows_peek {c : Cfg} {n t k m : Nat} (hk : (k : Int) = 2 + c.th + c.sl) (hth : 1 ≤ c.th) (hm : (m : Int) ≤ c.sl) (hs : c.sl ≤ 30) : ∀ (j : Nat), j ≤ m →
  (groundM n t k (rowsTo c (rangeI m) j)).peek n (-2) = some (if 0 < j then 1 else 0) ∧ (∀ s : Int, 0 ≤ s → s < c.sl → (groundM n t k (rowsTo c (rangeI m) j)).peek n (-3 - c.th - s) = some (if s + 1 < j then s + 2 else 0)) ∧ (groundM n t k (rowsTo c (rangeI m) j)).clock = j
 | 0, _ => ⟨g0p (by omega), fun s h1 h2 => by
   rw [if_neg (by omega)]; exact g0p (by omega), rfl⟩
 | j + 1, hj => by
  obtain ⟨h1, h2, h3⟩ := rows_peek (n := n) (t := t) hk hth hm hs j (by omega)
  have hl : (groundM n t k (rowsTo c (rangeI m) j)).pass.length = k := ground_pass
  rw [rowsTo_succ, groundS, rangeI_get (by omega), numW_small (by omega)]
  have hat : atS c (rangeI m) j = if j = 0 then -2 else -3 - c.th - ((j : Int) - 1) := by
   unfold atS
   split
   ·rfl
   ·rw [rangeI_get (by omega), aft_at (by omega)]; omega
  have hneg : atS c (rangeI m) j < 0 ∧ -1 - atS c (rangeI m) j < k := by rw [hat]; split <;> omega
  have pk : ∀ i : Int, ((groundM n t k (rowsTo c (rangeI m) j)).accS n 0 (atS c (rangeI m) j) ((j : Int) + 1)).1.peek n i = if i = atS c (rangeI m) j then some ((j : Int) + 1) else (groundM n t k (rowsTo c (rangeI m) j)).peek n i := fun i => by
   rw [accS_peek hneg.1]
   by_cases hi : i = atS c (rangeI m) j
   ·rw [if_pos ⟨hi, by omega⟩, if_pos hi]
   ·rw [if_neg (fun h => hi h.1), if_neg hi]
  refine ⟨?_, fun s hs0 hs1 => ?_, ?_⟩
  ·rw [pk, hat]
   by_cases h0 : j = 0
   ·subst h0; rw [if_pos rfl, if_pos rfl, if_pos (by omega)]; rfl
   ·rw [if_neg h0, if_neg (by omega), h1, if_pos (by omega), if_pos (by omega)]
  ·rw [pk, hat]
   by_cases h0 : j = 0
   ·subst h0; rw [if_pos rfl, if_neg (by omega), h2 s hs0 hs1, if_neg (by omega), if_neg (by omega)]
   ·rw [if_neg h0]
    by_cases hsj : s = (j : Int) - 1
    ·rw [if_pos (by omega), if_pos (by omega)]; congr 1; omega
    ·rw [if_neg (by omega), h2 s hs0 hs1]
     by_cases h5 : s + 1 < j
     ·rw [if_pos h5, if_pos (by omega)]
     ·rw [if_neg h5, if_neg (by omega)]
  ·rw [show ((groundM n t k (rowsTo c (rangeI m) j)).accS n 0 (atS c (rangeI m) j) ((j : Int) + 1)).1.clock = i64s (groundM n t k (rowsTo c (rangeI m) j)).clock from clkS, h3]
   unfold i64s; rw [IntWalk.i64_in _ (by omega)]; omega
where
 g0p {n t k : Nat} {i : Int} (h : i < 0 ∧ -1 - i < k) : (groundM n t k []).peek n i = some 0 := by
  show (MemM.of (DevM.fresh (List.replicate (n * 8) 0) n t) k).peek n i = _
  rw [peek_pass (by simpa [MemM.of] using h)]
  have : (-1 - i).toNat < k := by omega
  simp [MemM.of, this]
 groundS {n t k : Nat} {ps : List PutM} {p : PutM} : groundM n t k (ps ++ [p]) = ((groundM n t k ps).accS n 0 p.at_ p.w).1 := by unfold groundM putsT; rw [List.foldl_append]; rfl
 clkS {M : MemM} {n : Nat} {th i w : Int} : (M.accS n th i w).1.clock = i64s M.clock := by
  show i64s (if (M.peek n i).isSome then M.put i w else M).clock = _
  split
  ·unfold MemM.put; split <;> rfl
  ·rfl
theorem rows_chain {c : Cfg} {n t k m : Nat} (hk : (k : Int) = 2 + c.th + c.sl) (hth : 1 ≤ c.th) (hm : (m : Int) ≤ c.sl) (hs : c.sl ≤ 30) : ChainF (aftW c n (groundM n t k (rowsTo c (rangeI m) m))) (topW n (groundM n t k (rowsTo c (rangeI m) m))) (rangeI m) := by
 obtain ⟨h1, h2, _⟩ := rows_peek (n := n) (t := t) hk hth hm hs m (Nat.le_refl m)
 have go : ∀ (q j : Nat), j + q = m → ∀ w : Int, toI w = (if 0 < q then (j : Int) else -1) → ChainF (aftW c n (groundM n t k (rowsTo c (rangeI m) m))) w ((List.range q).map fun (i : Nat) => ((j + i : Nat) : Int)) := by
  intro q
  induction q with
  | zero => intro j _ w hw; rw [if_neg (by omega)] at hw; exact hw
  | succ q ih =>
   intro j hj w hw
   rw [if_pos (by omega)] at hw
   rw [List.range_succ_eq_map, List.map_cons, List.map_map]
   refine ⟨by rw [hw]; rfl, ?_⟩
   have e1 : ((fun (i : Nat) => ((j + i : Nat) : Int)) ∘ Nat.succ) = fun (i : Nat) => (((j + 1) + i : Nat) : Int) := by funext i; show ((j + (i + 1) : Nat) : Int) = _; congr 1; omega
   rw [e1]
   refine ih (j + 1) (by omega) _ ?_
   unfold aftW
   rw [aft_at (by omega), h2 (((j + 0 : Nat) : Int)) (by omega) (by omega)]
   by_cases hq : 0 < q
   ·rw [if_pos hq, if_pos (by omega)]; show toI (((j + 0 : Nat) : Int) + 2) = _; unfold toI; omega
   ·rw [if_neg hq, if_neg (by omega)]; rfl
 have h := go m 0 (by omega) (topW n (groundM n t k (rowsTo c (rangeI m) m))) (by unfold topW; rw [h1]; split <;> rfl)
 have e : (List.range m).map (fun (i : Nat) => ((0 + i : Nat) : Int)) = rangeI m := by unfold rangeI; congr 1; funext i; congr 1; omega
 rw [e] at h; exact h
end Go.Proofs.Ytajkickofkeemaa
