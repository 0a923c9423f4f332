import Derived.Test.YtnehocjmgnhhhaaFmp
import Derived.Test.YtnehocjmgnhhhaaKn
/- The document's model: keys, pairs. -/
namespace Go.Proofs.Ytnehocjmgnhhhaa
open Go.RowKit
set_option linter.unusedVariables false
attribute [local irreducible] K.KW K.RW K.DW K.OW K.QR K.KC
section
variable {α : Type} {f : α → Int} {k : Int} {z x : α} {o : List α}
end
def idI (x : Int) : Int := x
end Go.Proofs.Ytnehocjmgnhhhaa

/- Apply: the code's and the document's. -/
namespace Go.Proofs.Ytnehocjmgnhhhaa
open Go.RowKit
set_option linter.unusedVariables false
attribute [local irreducible] K.KW K.RW K.DW K.OW K.QR K.KC
/-- a list of numbers that can be read wherever the group holds -/
abbrev RdU (w0 : World) (g : K.Cs) (a : Option Addr) (L : List Int) : Prop := ∀ w, K.Sat w0 [g] w → K.RowE w a L.length 1 (fun i => cU32 (L.getD i 0))
abbrev RdP (w0 : World) (g : K.Cs) (a : Option Addr) (L : List PairM) : Prop := ∀ w, K.Sat w0 [g] w → K.RowE w a L.length 2 (fun i => cPair (L.getD i p0))
theorem rdU_own {w0 : World} {g : K.Cs} {a : Option Addr} {n c : Nat} {L : List Int} (h : K.OwnG g 45 1 a n c (L.flatMap cU32)) (ln : L.length = n) : RdU w0 g a L := fun w hS => by
 subst ln
 exact K.Own.rowE 0 (hS.ownr 0 rfl h) rfl (fun _ => rfl)
theorem rdP_own {w0 : World} {g : K.Cs} {a : Option Addr} {n c : Nat} {L : List PairM} (h : K.OwnG g 59 2 a n c (L.flatMap cPair)) (ln : L.length = n) : RdP w0 g a L := fun w hS => by
 subst ln
 exact K.Own.rowE p0 (hS.ownr 0 rfl h) rfl (fun _ => rfl)
/-! ### what Apply makes, by the kinds -/
theorem rises_idI {xs : List Int} (h : rising xs) : Rises idI xs := rises_of h
theorem rises_key {xs : List PairM} (h : rising (keysP xs)) : Rises PairM.key xs := Rises.rising.2 h
theorem map_idI (xs : List Int) : xs.map idI = xs := List.map_id xs
section
variable {q s : List Int} {m : List PairM} {k v : Int}
theorem hasS (hr : rising s) : hasT s k = anyT idI k s := by rw [anyT_get, ← has_get (rises_idI hr), map_idI]
theorem hasM (hr : rising (keysP m)) : hasT (keysP m) k = anyT PairM.key k m := by rw [anyT_get, ← has_get (rises_key hr)]; rfl
theorem setT_eq (hr : rising s) (kind : Int) : setT s kind k = if anyT idI k s = true then (if kind = 4 then (keysR idI k k false s, 1) else (s, 3)) else if kind = 3 then (keysR idI k k true s, 1) else (s, 4) := by
 have hi := rises_idI hr
 unfold setT
 rw [hasS hr]
 cases h : anyT idI k s with
 | true =>
  simp only [if_true]
  rw [keysR_cut]
  rw [anyT_get] at h
  have := del_cut hi h
  rw [map_idI] at this
  rw [this]
 | false =>
  simp only [Bool.false_eq_true, if_false]
  rw [anyT_get] at h
  have hn : getT idI s k = none := by simpa using h
  rw [keysR_put hn]
  have := ins_put (f := idI) (k := k) s k
  rw [map_idI] at this
  rw [this]
theorem pairsT_eq (hr : rising (keysP m)) (kind : Int) : pairsT m kind k v = if anyT PairM.key k m = true then (if kind = 8 then (keysR PairM.key k ⟨k, v⟩ false m, 1, (lastT PairM.key k p0 m).val) else (m, 3, (lastT PairM.key k p0 m).val)) else if kind = 6 then (keysR PairM.key k ⟨k, v⟩ true m, 1, (lastT PairM.key k p0 m).val) else (m, 4, 0) := by
 have hi := rises_key hr
 unfold pairsT
 rw [hasM hr]
 cases h : anyT PairM.key k m with
 | true =>
  simp only [if_true]
  rw [keysR_cut]
  rw [anyT_get] at h
  have := del_cut hi h
  obtain ⟨x, hx⟩ := Option.isSome_iff_exists.1 h
  have h2 := at_get hi p0 hx
  unfold keysP
  rw [this, h2, lastT_get hi, hx]; rfl
 | false =>
  simp only [Bool.false_eq_true, if_false]
  rw [anyT_get] at h
  have hn : getT PairM.key m k = none := by simpa using h
  rw [keysR_put hn]
  have := ins_put (f := PairM.key) (k := k) m ⟨k, v⟩
  unfold keysP
  rw [this, lastT_get hi, hn]; rfl
end
end Go.Proofs.Ytnehocjmgnhhhaa

/- Operations one behind the other: model.Run. -/
namespace Go.Proofs.Ytnehocjmgnhhhaa
open Go.RowKit
set_option linter.unusedVariables false
attribute [local irreducible] K.KW K.RW K.DW K.OW K.QR K.KC
theorem rising_cut {s : List Int} {k : Int} (hr : rising s) : rising (cutT idI s k) := rising_of (cutT_rises (rises_idI hr))
theorem setT_ok {s : List Int} {kind k : Int} (hr : rising s) : (setT s kind k).1.length ≤ s.length + 1 ∧ rising (setT s kind k).1 := by
 have hi := rises_idI hr
 rw [setT_eq hr]
 cases h : anyT idI k s with
 | true =>
  simp only [if_true]
  split
  ·rw [keysR_cut]
   exact ⟨Nat.le_succ_of_le (List.length_filter_le _ _) , rising_cut hr⟩
  ·exact ⟨Nat.le_succ _, hr⟩
 | false =>
  simp only [Bool.false_eq_true, if_false]
  rw [anyT_get] at h
  have hn : getT idI s k = none := by simpa using h
  split
  ·rw [keysR_put hn]
   refine ⟨?_, rising_of (putT_rises (x := k) hi rfl hn)⟩
   rw [← ins_put (f := idI) (k := k) s k]
   exact Nat.le_of_eq (insT_len (by rw [map_idI]; exact posT_le _ _))
  ·exact ⟨Nat.le_succ _, hr⟩
theorem pairsT_ok {m : List PairM} {kind k v : Int} (hr : rising (keysP m)) : (pairsT m kind k v).1.length ≤ m.length + 1 ∧ rising (keysP (pairsT m kind k v).1) := by
 have hi := rises_key hr
 rw [pairsT_eq hr]
 cases h : anyT PairM.key k m with
 | true =>
  simp only [if_true]
  split
  ·rw [keysR_cut]
   exact ⟨Nat.le_succ_of_le (List.length_filter_le _ _) , Rises.rising.1 (cutT_rises hi)⟩
  ·exact ⟨Nat.le_succ _, hr⟩
 | false =>
  simp only [Bool.false_eq_true, if_false]
  rw [anyT_get] at h
  have hn : getT PairM.key m k = none := by simpa using h
  split
  ·rw [keysR_put hn]
   refine ⟨?_, Rises.rising.1 (putT_rises (x := ⟨k, v⟩) hi rfl hn)⟩
   rw [← ins_put (f := PairM.key) (k := k) m ⟨k, v⟩]
   have := posT_le (m.map PairM.key) k
   exact Nat.le_of_eq (insT_len (by simpa using this))
  ·exact ⟨Nat.le_succ _, hr⟩
theorem queueT_len (q : List Int) (kind v : Int) : (queueT q kind v).1.length ≤ q.length + 1 := by
 unfold queueT
 split
 ·exact Nat.le_of_eq (insT_len (Nat.le_refl _))
 ·split
  ·exact Nat.le_succ _
  ·rename_i h; rw [delT_len (by omega)]; omega
theorem applyT_ok {S : StM} {kind key val : Int} (h1 : rising S.s) (h2 : rising (keysP S.m)) :
  (applyT S kind key val).1.q.length ≤ S.q.length + 1 ∧ (applyT S kind key val).1.s.length ≤ S.s.length + 1 ∧ (applyT S kind key val).1.m.length ≤ S.m.length + 1 ∧ rising (applyT S kind key val).1.s ∧ rising (keysP (applyT S kind key val).1.m) := by
 unfold applyT
 (repeat' split)
 ·exact ⟨queueT_len _ _ _, Nat.le_succ _, Nat.le_succ _, h1, h2⟩
 ·exact ⟨Nat.le_succ _, (setT_ok h1).1, Nat.le_succ _, (setT_ok h1).2, h2⟩
 ·exact ⟨Nat.le_succ _, Nat.le_succ _, (pairsT_ok h2).1, h1, (pairsT_ok h2).2⟩
 ·exact ⟨Nat.le_succ _, Nat.le_succ _, Nat.le_succ _, h1, h2⟩
end Go.Proofs.Ytnehocjmgnhhhaa
