/- Operations on unlike parts, and on unlike keys, may be done in either order: the plain law. -/
import Derived.Test.YtgeihjiichdpbaaFl8
namespace Go.Proofs.Ytgeihjiichdpbaa
open Go.RowKit
set_option linter.unusedVariables false
attribute [local irreducible] K.KW K.RW K.DW K.OW K.QR K.KC

section
variable {α : Type} {f : α → Int} {k : Int}
/-- one operation on a list whose keys rise -/
def gT (f : α → Int) (xs : List α) (k : Int) (x : α) (ins del : Prop) [Decidable ins] [Decidable del] : List α :=
  if (getT f xs k).isSome = true then (if del then cutT f xs k else xs) else if ins then putT f xs k x else xs
def gO (x : α) (ins del : Prop) [Decidable ins] [Decidable del] (o : Option α) : Option α := if o.isSome = true then (if del then none else o) else if ins then some x else none
theorem gT_rises {xs : List α} {x : α} {ins del : Prop} [Decidable ins] [Decidable del] (h : Rises f xs) (hx : f x = k) : Rises f (gT f xs k x ins del) := by
  unfold gT
  split
  · split
    · exact cutT_rises h
    · exact h
  · rename_i hn
    split
    · exact putT_rises h hx (by simpa using hn)
    · exact h
theorem gT_get {xs : List α} {x : α} {ins del : Prop} [Decidable ins] [Decidable del] {j : Int} (hx : f x = k) : getT f (gT f xs k x ins del) j = if j = k then gO x ins del (getT f xs k) else getT f xs j := by
  unfold gT gO
  by_cases h1 : (getT f xs k).isSome = true
  · rw [if_pos h1, if_pos h1]
    by_cases h2 : del
    · rw [if_pos h2, if_pos h2, cutT_get]
    · rw [if_neg h2, if_neg h2]
      split
      · rename_i e; rw [e]
      · rfl
  · rw [if_neg h1, if_neg h1]
    by_cases h2 : ins
    · rw [if_pos h2, if_pos h2, putT_get' hx]
    · rw [if_neg h2, if_neg h2]
      split
      · rename_i e; rw [e]; simpa using h1
      · rfl
theorem gT_no {xs : List α} {x : α} {ins del : Prop} [Decidable ins] [Decidable del] (h1 : ¬ ins) (h2 : ¬ del) : gT f xs k x ins del = xs := by
  unfold gT; rw [if_neg h1, if_neg h2]; split <;> rfl
theorem gT_comm {xs : List α} {k2 : Int} {x x2 : α} {i1 d1 i2 d2 : Prop} [Decidable i1] [Decidable d1] [Decidable i2] [Decidable d2] (h : Rises f xs) (hx : f x = k) (hx2 : f x2 = k2) (hk : k ≠ k2) :
    gT f (gT f xs k x i1 d1) k2 x2 i2 d2 = gT f (gT f xs k2 x2 i2 d2) k x i1 d1 := by
  refine rises_ext (gT_rises (gT_rises h hx) hx2) (gT_rises (gT_rises h hx2) hx) fun j => ?_
  rw [gT_get hx2, gT_get hx, gT_get hx, gT_get hx, gT_get hx2, gT_get hx2]
  by_cases h1 : j = k
  · have h2 : ¬ j = k2 := by omega
    simp only [h1, if_true, if_neg hk]
  · by_cases h2 : j = k2
    · have h3 : ¬ k2 = k := by omega
      simp only [h2, if_true, if_neg h3]
    · simp only [if_neg h1, if_neg h2]
end
def resS (kind : Int) (o : Option Int) : Int := if o.isSome = true then (if kind = 4 then 1 else 3) else if kind = 3 then 1 else 4
def resP (kind : Int) (o : Option PairM) : Int × Int := if o.isSome = true then (if kind = 8 then 1 else 3, (o.getD p0).val) else (if kind = 6 then 1 else 4, 0)
theorem setT_g {s : List Int} {k : Int} (hr : rising s) (kind : Int) : setT s kind k = (gT idI s k k (kind = 3) (kind = 4), resS kind (getT idI s k)) := by
  rw [setT_eq hr, anyT_get, keysR_cut]
  unfold gT resS
  cases h : (getT idI s k).isSome with
  | true => simp only [if_true]; split <;> rfl
  | false =>
    simp only [Bool.false_eq_true, if_false]
    rw [keysR_put (by simpa using h)]
    split <;> rfl
theorem pairsT_g {m : List PairM} {k v : Int} (hr : rising (keysP m)) (kind : Int) : pairsT m kind k v = (gT PairM.key m k ⟨k, v⟩ (kind = 6) (kind = 8), resP kind (getT PairM.key m k)) := by
  rw [pairsT_eq hr, anyT_get, keysR_cut, lastT_get (rises_key hr)]
  unfold gT resP
  cases h : getT PairM.key m k with
  | some x => simp only [Option.isSome_some, if_true]; split <;> rfl
  | none =>
    simp only [Option.isSome_none, Bool.false_eq_true, if_false]
    rw [keysR_put h]
    split <;> rfl
theorem set_comm {s : List Int} {ka ya kb yb : Int} (hr : rising s) (h : ya ≠ yb ∨ (ka = 5 ∧ kb = 5)) :
    (setT (setT s ka ya).1 kb yb).1 = (setT (setT s kb yb).1 ka ya).1 ∧ (setT s ka ya).2 = (setT (setT s kb yb).1 ka ya).2 ∧ (setT (setT s ka ya).1 kb yb).2 = (setT s kb yb).2 := by
  have r1 := (setT_ok (kind := ka) (k := ya) hr).2
  have r2 := (setT_ok (kind := kb) (k := yb) hr).2
  rw [setT_g r1, setT_g r2]
  simp only [setT_g hr]
  rcases h with h | ⟨rfl, rfl⟩
  · refine ⟨gT_comm (rises_idI hr) rfl rfl h, ?_, ?_⟩
    · rw [gT_get (f := idI) (k := yb) (x := yb) rfl, if_neg h]
    · rw [gT_get (f := idI) (k := ya) (x := ya) rfl, if_neg (Ne.symm h)]
  · have e : ∀ (t : List Int) (y : Int), gT idI t y y ((5 : Int) = 3) ((5 : Int) = 4) = t := fun t y => gT_no (by decide) (by decide)
    refine ⟨?_, ?_, ?_⟩ <;> simp only [e]
theorem pairs_comm {m : List PairM} {ka ya va kb yb vb : Int} (hr : rising (keysP m)) (h : ya ≠ yb ∨ (ka = 7 ∧ kb = 7)) :
    (pairsT (pairsT m ka ya va).1 kb yb vb).1 = (pairsT (pairsT m kb yb vb).1 ka ya va).1 ∧ (pairsT m ka ya va).2 = (pairsT (pairsT m kb yb vb).1 ka ya va).2 ∧ (pairsT (pairsT m ka ya va).1 kb yb vb).2 = (pairsT m kb yb vb).2 := by
  have r1 := (pairsT_ok (kind := ka) (k := ya) (v := va) hr).2
  have r2 := (pairsT_ok (kind := kb) (k := yb) (v := vb) hr).2
  rw [pairsT_g r1, pairsT_g r2]
  simp only [pairsT_g hr]
  rcases h with h | ⟨rfl, rfl⟩
  · refine ⟨gT_comm (rises_key hr) rfl rfl h, ?_, ?_⟩
    · rw [gT_get (f := PairM.key) (k := yb) (x := ⟨yb, vb⟩) rfl, if_neg h]
    · rw [gT_get (f := PairM.key) (k := ya) (x := ⟨ya, va⟩) rfl, if_neg (Ne.symm h)]
  · have e : ∀ (t : List PairM) (y v : Int), gT PairM.key t y ⟨y, v⟩ ((7 : Int) = 6) ((7 : Int) = 8) = t := fun t y v => gT_no (by decide) (by decide)
    refine ⟨?_, ?_, ?_⟩ <;> simp only [e]
def partT (k : Int) : Int := if 1 ≤ k ∧ k ≤ 2 then 1 else if 3 ≤ k ∧ k ≤ 5 then 2 else if 6 ≤ k ∧ k ≤ 8 then 3 else 0
theorem part_get {k : Int} (h : 1 ≤ k ∧ k ≤ 8) : ([0, 1, 1, 2, 2, 2, 3, 3, 3] : List Int).getD k.toNat 0 = partT k := by
  have : k = 1 ∨ k = 2 ∨ k = 3 ∨ k = 4 ∨ k = 5 ∨ k = 6 ∨ k = 7 ∨ k = 8 := by omega
  rcases this with rfl | rfl | rfl | rfl | rfl | rfl | rfl | rfl <;> rfl
def apartP (ka ya kb yb : Int) : Prop := ¬(1 ≤ ka ∧ ka ≤ 8) ∨ ¬(1 ≤ kb ∧ kb ≤ 8) ∨ ¬ partT ka = partT kb ∨ (partT ka > 1 ∧ ¬ ya = yb) ∨ ((ka = 5 ∨ ka = 7) ∧ (kb = 5 ∨ kb = 7))
instance (ka ya kb yb : Int) : Decidable (apartP ka ya kb yb) := by unfold apartP; exact inferInstance
section
variable {S : StM} {k y v : Int}
theorem apQ (h : partT k = 1) : applyT S k y v = (⟨(queueT S.q k v).1, S.s, S.m⟩, (queueT S.q k v).2) := by
  unfold partT at h
  unfold applyT
  rw [if_pos (by revert h; (repeat' split) <;> intro h <;> omega)]
theorem apSt (h : partT k = 2) : applyT S k y v = (⟨S.q, (setT S.s k y).1, S.m⟩, (setT S.s k y).2, 0) := by
  have : 3 ≤ k ∧ k ≤ 5 := by unfold partT at h; revert h; (repeat' split) <;> intro h <;> omega
  unfold applyT
  rw [if_neg (by omega), if_pos this]
theorem apMp (h : partT k = 3) : applyT S k y v = (⟨S.q, S.s, (pairsT S.m k y v).1⟩, (pairsT S.m k y v).2) := by
  have : 6 ≤ k ∧ k ≤ 8 := by unfold partT at h; revert h; (repeat' split) <;> intro h <;> omega
  unfold applyT
  rw [if_neg (by omega), if_neg (by omega), if_pos this]
theorem apNo (h : partT k = 0) : applyT S k y v = (S, 0, 0) := by
  have : ¬ (1 ≤ k ∧ k ≤ 8) := by
    intro h2
    unfold partT at h
    revert h; (repeat' split) <;> intro h <;> omega
  unfold applyT
  rw [if_neg (by omega), if_neg (by omega), if_neg (by omega)]
theorem part_cases (k : Int) : partT k = 0 ∨ partT k = 1 ∨ partT k = 2 ∨ partT k = 3 := by unfold partT; (repeat' split) <;> omega
theorem part_57 (k : Int) (h : k = 5 ∨ k = 7) : (partT k = 2 ∧ k = 5) ∨ (partT k = 3 ∧ k = 7) := by rcases h with rfl | rfl <;> decide
theorem part_in (h : partT k ≠ 0) : 1 ≤ k ∧ k ≤ 8 := by unfold partT at h; revert h; (repeat' split) <;> intro h <;> omega
end
theorem turns {S : StM} {a b : OpM} (h1 : rising S.s) (h2 : rising (keysP S.m)) (h : apartP a.kind a.key b.kind b.key) :
    (apO (apO S a).1 b).1 = (apO (apO S b).1 a).1 ∧ (apO S a).2 = (apO (apO S b).1 a).2 ∧ (apO (apO S a).1 b).2 = (apO S b).2 := by
  unfold apO
  rcases part_cases a.kind with pa | pa | pa | pa <;> rcases part_cases b.kind with pb | pb | pb | pb
  · simp only [apNo pa, apNo pb]; exact ⟨trivial, trivial, trivial⟩
  · simp only [apNo pa, apQ pb]; exact ⟨trivial, trivial, trivial⟩
  · simp only [apNo pa, apSt pb]; exact ⟨trivial, trivial, trivial⟩
  · simp only [apNo pa, apMp pb]; exact ⟨trivial, trivial, trivial⟩
  · simp only [apQ pa, apNo pb]; exact ⟨trivial, trivial, trivial⟩
  · exfalso
    have ia := part_in (k := a.kind) (by omega); have ib := part_in (k := b.kind) (by omega)
    rcases h with h | h | h | h | ⟨h, _⟩
    · exact h ia
    · exact h ib
    · omega
    · omega
    · rcases part_57 _ h with ⟨h, _⟩ | ⟨h, _⟩ <;> omega
  · simp only [apQ pa, apSt pb]; exact ⟨trivial, trivial, trivial⟩
  · simp only [apQ pa, apMp pb]; exact ⟨trivial, trivial, trivial⟩
  · simp only [apSt pa, apNo pb]; exact ⟨trivial, trivial, trivial⟩
  · simp only [apSt pa, apQ pb]; exact ⟨trivial, trivial, trivial⟩
  · have hh : a.key ≠ b.key ∨ (a.kind = 5 ∧ b.kind = 5) := by
      have ia := part_in (k := a.kind) (by omega); have ib := part_in (k := b.kind) (by omega)
      rcases h with h | h | h | h | ⟨h, h'⟩
      · exact absurd ia h
      · exact absurd ib h
      · omega
      · exact .inl h.2
      · rcases part_57 _ h with ⟨_, h⟩ | ⟨h, _⟩ <;> rcases part_57 _ h' with ⟨_, h'⟩ | ⟨h', _⟩ <;> first | exact .inr ⟨h, h'⟩ | omega
    obtain ⟨e1, e2, e3⟩ := set_comm h1 hh
    simp only [apSt pa, apSt pb]
    rw [e1, e2, e3]; exact ⟨rfl, rfl, rfl⟩
  · simp only [apSt pa, apMp pb]; exact ⟨trivial, trivial, trivial⟩
  · simp only [apMp pa, apNo pb]; exact ⟨trivial, trivial, trivial⟩
  · simp only [apMp pa, apQ pb]; exact ⟨trivial, trivial, trivial⟩
  · simp only [apMp pa, apSt pb]; exact ⟨trivial, trivial, trivial⟩
  · have hh : a.key ≠ b.key ∨ (a.kind = 7 ∧ b.kind = 7) := by
      have ia := part_in (k := a.kind) (by omega); have ib := part_in (k := b.kind) (by omega)
      rcases h with h | h | h | h | ⟨h, h'⟩
      · exact absurd ia h
      · exact absurd ib h
      · omega
      · exact .inl h.2
      · rcases part_57 _ h with ⟨h, _⟩ | ⟨_, h⟩ <;> rcases part_57 _ h' with ⟨h', _⟩ | ⟨_, h'⟩ <;> first | exact .inr ⟨h, h'⟩ | omega
    obtain ⟨e1, e2, e3⟩ := pairs_comm (va := a.val) (vb := b.val) h2 hh
    simp only [apMp pa, apMp pb]
    rw [e1, e2, e3]; exact ⟨rfl, rfl, rfl⟩
theorem looks_id {S : StM} {k y v : Int} (h1 : rising S.s) (h2 : rising (keysP S.m)) (h : k = 5 ∨ k = 7) : (applyT S k y v).1 = S := by
  rcases h with rfl | rfl
  · rw [apSt (by decide), setT_g h1, gT_no (by decide) (by decide)]
  · rw [apMp (by decide), pairsT_g h2, gT_no (by decide) (by decide)]
theorem run2 (S : StM) (a b : OpM) : runT S [a, b] = ((apO (apO S a).1 b).1, [(apO S a).2, (apO (apO S a).1 b).2]) := rfl

end Go.Proofs.Ytgeihjiichdpbaa
