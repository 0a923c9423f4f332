import Derived.Test.YtnehocjmgnhhhaaFso3
/- Witness: the sort: swapping ranges, rotating. -/
namespace Go.Proofs.Ytnehocjmgnhhhaa
open Go.RowKit
set_option linter.unusedVariables false
attribute [local irreducible] K.KW K.RW K.DW K.OW K.QR K.KC
/-- two ranges of so many, changed -/
def swF (P : List Int) (a b i k : Nat) : Int := if a ≤ k ∧ k < a + i then P.getD (k + (b - a)) 0 else if b ≤ k ∧ k < b + i then P.getD (k - (b - a)) 0 else P.getD k 0
def swR (P Q : List Int) (a b n : Nat) : Prop := Q.length = P.length ∧ ∀ k, Q.getD k 0 = swF P a b n k
theorem swR.nil {P : List Int} {a b : Nat} : swR P P a b 0 := ⟨rfl, fun k => by unfold swF; rw [if_neg (by omega), if_neg (by omega)]⟩
theorem swR.step {P Q : List Int} {a b n i : Nat} (h : swR P Q a b i) (hi : i < n) (hab : a + n ≤ b) (hb : b + n ≤ P.length) : swR P ((Q.set (a + i) (Q.getD (b + i) 0)).set (b + i) (Q.getD (a + i) 0)) a b (i + 1) := by
 obtain ⟨h1, h2⟩ := h
 refine ⟨by rw [List.length_set, List.length_set, h1], fun k => ?_⟩
 rw [set_getD (by rw [List.length_set]; omega), set_getD (by omega), h2, h2, h2]
 have e1 : swF P a b i (a + i) = P.getD (a + i) 0 := by unfold swF; rw [if_neg (by omega), if_neg (by omega)]
 have e2 : swF P a b i (b + i) = P.getD (b + i) 0 := by unfold swF; rw [if_neg (by omega), if_neg (by omega)]
 rw [e1, e2]
 unfold swF
 (repeat' split) <;> first | omega | rfl | (congr 1; omega)
/-- a rotated part -/
def rotF (P : List Int) (a m b t : Nat) : Int := if a ≤ t ∧ t < a + (b - m) then P.getD (t + (m - a)) 0 else if a + (b - m) ≤ t ∧ t < b then P.getD (t - (b - m)) 0 else P.getD t 0
def rotR (P Q : List Int) (a m b : Nat) : Prop := Q.length = P.length ∧ ∀ t, Q.getD t 0 = rotF P a m b t
/-- what is left to be rotated -/
def rotI (P Q : List Int) (a m b i j : Nat) : Prop := Q.length = P.length ∧ ∀ t, rotF P a m b t = rotF Q (m - i) m (m + j) t
theorem rotI.nil {P : List Int} {a m b : Nat} (h1 : a ≤ m) (h2 : m ≤ b) : rotI P P a m b (m - a) (b - m) := ⟨rfl, fun t => by rw [show m - (m - a) = a by omega, show m + (b - m) = b by omega]⟩
theorem rotI.gt {P Q R : List Int} {a m b i j : Nat} (h : rotI P Q a m b i j) (hi : i ≤ m) (hj : j < i) (hs : swR Q R (m - i) m j) : rotI P R a m b (i - j) j := by
 obtain ⟨h1, h2⟩ := h
 refine ⟨hs.1.trans h1, fun t => ?_⟩
 rw [h2 t]
 unfold rotF
 rw [hs.2, hs.2, hs.2]
 unfold swF
 (repeat' split) <;> first | omega | (congr 1; omega)
theorem rotI.lt {P Q R : List Int} {a m b i j : Nat} (h : rotI P Q a m b i j) (hi : i ≤ m) (hj : i < j) (hs : swR Q R (m - i) (m + j - i) i) : rotI P R a m b i (j - i) := by
 obtain ⟨h1, h2⟩ := h
 refine ⟨hs.1.trans h1, fun t => ?_⟩
 rw [h2 t]
 unfold rotF
 rw [hs.2, hs.2, hs.2]
 unfold swF
 (repeat' split) <;> first | omega | (congr 1; omega)
theorem rotI.fin {P Q R : List Int} {a m b i : Nat} (h : rotI P Q a m b i i) (hi : i ≤ m) (hs : swR Q R (m - i) m i) : rotR P R a m b := by
 obtain ⟨h1, h2⟩ := h
 refine ⟨hs.1.trans h1, fun t => ?_⟩
 rw [h2 t, hs.2]
 unfold rotF swF
 (repeat' split) <;> first | omega | (congr 1; omega)
end Go.Proofs.Ytnehocjmgnhhhaa
