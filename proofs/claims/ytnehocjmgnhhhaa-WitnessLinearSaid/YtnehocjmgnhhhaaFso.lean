import Derived.Test.YtnehocjmgnhhhaaFli
/- Witness: the sort: comparing two places. -/
namespace Go.Proofs.Ytnehocjmgnhhhaa
open Go.RowKit
set_option linter.unusedVariables false
attribute [local irreducible] K.KW K.RW K.DW K.OW K.QR K.KC
/-- when a call took effect -/
def keyL (L : List CallM) (p : Int) : Int := (L.getD p.toNat call0).wh
/-- places that lie in the history -/
def valP (L : List CallM) (P : List Int) : Prop := ∀ i, i < P.length → 0 ≤ P.getD i 0 ∧ P.getD i 0 < (L.length : Int)
/-- of equal keys the lower place stays ahead -/
def stbP (L : List CallM) (P : List Int) : Prop := ∀ i j, i < j → j < P.length → keyL L (P.getD i 0) = keyL L (P.getD j 0) → P.getD i 0 < P.getD j 0
/-- a part that rises -/
def srtP (L : List CallM) (P : List Int) (a b : Nat) : Prop := ∀ i j, a ≤ i → i < j → j < b → keyL L (P.getD i 0) ≤ keyL L (P.getD j 0)
theorem set_getD {P : List Int} {i k : Nat} {x : Int} (hi : i < P.length) : (P.set i x).getD k 0 = if i = k then x else P.getD k 0 := by
 rw [List.getD_eq_getElem?_getD, List.getElem?_set]
 split
 ·first | rfl | (rw [if_pos hi]; rfl)
 ·rfl
/-- two neighbours changed -/
def swpP (P : List Int) (j : Nat) : List Int := (P.set j (P.getD (j - 1) 0)).set (j - 1) (P.getD j 0)
theorem swpP_len {P : List Int} {j : Nat} : (swpP P j).length = P.length := by simp [swpP]
theorem swpP_get {P : List Int} {j k : Nat} (hj : j < P.length) (h0 : 0 < j) : (swpP P j).getD k 0 = if k = j then P.getD (j - 1) 0 else if k = j - 1 then P.getD j 0 else P.getD k 0 := by
 unfold swpP
 rw [set_getD (by rw [List.length_set]; omega), set_getD hj]
 by_cases h1 : k = j
 ·subst h1; rw [if_neg (by omega), if_pos rfl, if_pos rfl]
 ·by_cases h2 : k = j - 1
  ·subst h2; rw [if_pos rfl, if_neg h1, if_pos rfl]
  ·rw [if_neg (by omega), if_neg (by omega), if_neg h1, if_neg h2]
theorem swpP_val {L : List CallM} {P : List Int} {j : Nat} (h : valP L P) (hj : j < P.length) (h0 : 0 < j) : valP L (swpP P j) := fun i hi => by
 rw [swpP_len] at hi
 rw [swpP_get hj h0]
 split
 ·exact h _ (by omega)
 ·split
  ·exact h _ hj
  ·exact h _ hi
theorem swpP_stb {L : List CallM} {P : List Int} {j : Nat} (h : stbP L P) (hj : j < P.length) (h0 : 0 < j) (hk : keyL L (P.getD j 0) < keyL L (P.getD (j - 1) 0)) : stbP L (swpP P j) := fun p q hpq hq => by
 rw [swpP_len] at hq
 rw [swpP_get hj h0, swpP_get hj h0]
 by_cases a1 : p = j
 ·rw [if_pos a1, if_neg (by omega), if_neg (by omega)]
  exact fun he => h _ _ (by omega) hq he
 ·by_cases a2 : p = j - 1
  ·rw [if_neg a1, if_pos a2]
   by_cases a3 : q = j
   ·rw [if_pos a3]; intro he; omega
   ·rw [if_neg a3, if_neg (by omega)]
    exact fun he => h _ _ (by omega) hq he
  ·rw [if_neg a1, if_neg a2]
   by_cases a3 : q = j
   ·rw [if_pos a3]
    exact fun he => h _ _ (by omega) (by omega) he
   ·rw [if_neg a3]
    by_cases a4 : q = j - 1
    ·rw [if_pos a4]
     exact fun he => h _ _ (by omega) hj he
    ·rw [if_neg a4]
     exact fun he => h _ _ hpq hq he
/-- the part up to i rises, but for what stands at j and behind -/
def insP (L : List CallM) (P : List Int) (a i j : Nat) : Prop := ∀ p q, a ≤ p → p < q → q ≤ i → q ≠ j → keyL L (P.getD p 0) ≤ keyL L (P.getD q 0)
theorem insP_0 {L : List CallM} {P : List Int} {a i : Nat} (h : srtP L P a i) : insP L P a i i := fun p q h1 h2 h3 h4 => h p q h1 h2 (by omega)
theorem insP_swp {L : List CallM} {P : List Int} {a i j : Nat} (h : insP L P a i j) (hi : i < P.length) (hj : j ≤ i) (ha : a < j) (hk : keyL L (P.getD j 0) < keyL L (P.getD (j - 1) 0)) : insP L (swpP P j) a i (j - 1) := fun p q h1 h2 h3 h4 => by
 rw [swpP_get (by omega) (by omega), swpP_get (by omega) (by omega)]
 by_cases a1 : p = j
 ·rw [if_pos a1, if_neg (by omega), if_neg (by omega)]
  exact h _ _ (by omega) (by omega) h3 (by omega)
 ·by_cases a2 : p = j - 1
  ·rw [if_neg a1, if_pos a2]
   by_cases a3 : q = j
   ·rw [if_pos a3]; omega
   ·rw [if_neg a3, if_neg h4]
    exact h _ _ (by omega) (by omega) h3 a3
  ·rw [if_neg a1, if_neg a2]
   by_cases a3 : q = j
   ·rw [if_pos a3]
    exact h _ _ h1 (by omega) (by omega) (by omega)
   ·rw [if_neg a3, if_neg h4]
    exact h _ _ h1 h2 h3 a3
theorem insP_end {L : List CallM} {P : List Int} {a i j : Nat} (h : insP L P a i j) (hj : j ≤ i) (ha : a ≤ j) (hx : j = a ∨ ¬ keyL L (P.getD j 0) < keyL L (P.getD (j - 1) 0)) : srtP L P a (i + 1) := fun p q h1 h2 h3 => by
 by_cases hq : q = j
 ·subst hq
  rcases hx with hx | hx
  ·omega
  ·by_cases hp : p = q - 1
   ·subst hp; omega
   ·have := h p (q - 1) h1 (by omega) (by omega) (by omega); omega
 ·exact h p q h1 h2 (by omega) hq
/-- what a part of the sort keeps: the row outside [a, b), and which places stand in it -/
def keepP (L : List CallM) (P Q : List Int) (a b : Nat) : Prop := Q.length = P.length ∧ valP L Q ∧ stbP L Q ∧ (∀ i, i < a ∨ b ≤ i → Q.getD i 0 = P.getD i 0) ∧
 (∀ i, a ≤ i → i < b → ∃ j, a ≤ j ∧ j < b ∧ Q.getD i 0 = P.getD j 0) ∧ (∀ i, a ≤ i → i < b → ∃ j, a ≤ j ∧ j < b ∧ Q.getD j 0 = P.getD i 0)
theorem keepP.refl {L : List CallM} {P : List Int} {a b : Nat} (hv : valP L P) (hs : stbP L P) : keepP L P P a b := ⟨rfl, hv, hs, fun _ _ => rfl, fun i h1 h2 => ⟨i, h1, h2, rfl⟩, fun i h1 h2 => ⟨i, h1, h2, rfl⟩⟩
theorem keepP.mono {L : List CallM} {P Q : List Int} {a b a' b' : Nat} (h : keepP L P Q a' b') (ha : a ≤ a') (hb : b' ≤ b) : keepP L P Q a b := by
 obtain ⟨h1, h2, h3, h4, h5, h6⟩ := h
 refine ⟨h1, h2, h3, fun i hi => h4 i (by omega), fun i hi hj => ?_, fun i hi hj => ?_⟩
 ·by_cases hc : a' ≤ i ∧ i < b'
  ·obtain ⟨j, k1, k2, k3⟩ := h5 i hc.1 hc.2; exact ⟨j, by omega, by omega, k3⟩
  ·exact ⟨i, hi, hj, h4 i (by omega)⟩
 ·by_cases hc : a' ≤ i ∧ i < b'
  ·obtain ⟨j, k1, k2, k3⟩ := h6 i hc.1 hc.2; exact ⟨j, by omega, by omega, k3⟩
  ·exact ⟨i, hi, hj, h4 i (by omega)⟩
theorem keepP.trans {L : List CallM} {P Q R : List Int} {a b : Nat} (h : keepP L P Q a b) (k : keepP L Q R a b) : keepP L P R a b := by
 obtain ⟨h1, h2, h3, h4, h5, h6⟩ := h
 obtain ⟨k1, k2, k3, k4, k5, k6⟩ := k
 refine ⟨k1.trans h1, k2, k3, fun i hi => (k4 i hi).trans (h4 i hi), fun i hi hj => ?_, fun i hi hj => ?_⟩
 ·obtain ⟨j, a1, a2, a3⟩ := k5 i hi hj
  obtain ⟨m, b1, b2, b3⟩ := h5 j a1 a2
  exact ⟨m, b1, b2, a3.trans b3⟩
 ·obtain ⟨j, a1, a2, a3⟩ := h6 i hi hj
  obtain ⟨m, b1, b2, b3⟩ := k6 j a1 a2
  exact ⟨m, b1, b2, b3.trans a3⟩
theorem keepP.swp1 {L : List CallM} {P : List Int} {j : Nat} (hv : valP L P) (hs : stbP L P) (hj : j < P.length) (h0 : 0 < j) (hk : keyL L (P.getD j 0) < keyL L (P.getD (j - 1) 0)) : keepP L P (swpP P j) (j - 1) (j + 1) := by
 refine ⟨swpP_len, swpP_val hv hj h0, swpP_stb hs hj h0 hk, fun i hi => ?_, fun i h1 h2 => ?_, fun i h1 h2 => ?_⟩
 ·rw [swpP_get hj h0, if_neg (by omega), if_neg (by omega)]
 ·by_cases hc : i = j
  ·exact ⟨j - 1, by omega, by omega, by rw [swpP_get hj h0, if_pos hc]⟩
  ·exact ⟨j, by omega, by omega, by rw [swpP_get hj h0, if_neg hc, if_pos (by omega)]⟩
 ·by_cases hc : i = j
  ·exact ⟨j - 1, by omega, by omega, by rw [swpP_get hj h0, if_neg (by omega), if_pos rfl, hc]⟩
  ·obtain rfl : i = j - 1 := by omega
   exact ⟨j, by omega, by omega, by rw [swpP_get hj h0, if_pos rfl]⟩
theorem keepP.swp {L : List CallM} {P Q : List Int} {a b j : Nat} (h : keepP L P Q a b) (hj : j < b) (hb : b ≤ P.length) (ha : a < j) (hk : keyL L (Q.getD j 0) < keyL L (Q.getD (j - 1) 0)) : keepP L P (swpP Q j) a b :=
 h.trans ((keepP.swp1 h.2.1 h.2.2.1 (by rw [h.1]; omega) (by omega) hk).mono (by omega) (by omega))
end Go.Proofs.Ytnehocjmgnhhhaa
