import Derived.Test.YtnehocjmgnhhhaaDoorFpl
import Derived.Test.YtnehocjmgnhhhaaDoorFbu
import Derived.Test.YtnehocjmgnhhhaaDoorFsr
/- Scripts: plain: digits and numbers. -/
namespace Go.Proofs.YtnehocjmgnhhhaaDoor
open Go.RowKit
set_option linter.unusedVariables false
attribute [local irreducible] K.KW K.RW K.DW K.OW K.QR K.KC
/-- what the script's reader makes of a word as a number -/
def numW (l : List UInt8) (least most : Int) : Int × Int :=
  if l = [] ∨ lead l ∨ ¬ (∀ x ∈ l, isD x) then (0, 3) else if 10 < l.length ∨ (val l : Int) < least ∨ most < (val l : Int) then (0, 5) else ((val l : Int), 0)
theorem numW_form {l : List UInt8} {a b : Int} (h : l = [] ∨ lead l ∨ ¬ (∀ x ∈ l, isD x)) : numW l a b = (0, 3) := by unfold numW; rw [if_pos h]
theorem numW_range {l : List UInt8} {a b : Int} (h : ¬ (l = [] ∨ lead l ∨ ¬ (∀ x ∈ l, isD x))) (h2 : 10 < l.length ∨ (val l : Int) < a ∨ b < (val l : Int)) : numW l a b = (0, 5) := by unfold numW; rw [if_neg h, if_pos h2]
theorem numW_ok {l : List UInt8} {a b : Int} (h : ¬ (l = [] ∨ lead l ∨ ¬ (∀ x ∈ l, isD x))) (h2 : ¬ (10 < l.length ∨ (val l : Int) < a ∨ b < (val l : Int))) : numW l a b = ((val l : Int), 0) := by unfold numW; rw [if_neg h, if_neg h2]
/-- how far a number was read; its first ten digits count -/
def NumW (l : List UInt8) (n i : Nat) : Prop := i ≤ l.length ∧ n = val (l.take (min i 10)) ∧ (∀ x ∈ l.take i, isD x)
theorem numW0 (l : List UInt8) : NumW l 0 0 := ⟨by omega, by simp [val], by simp⟩
theorem isD_next {l : List UInt8} {i : Nat} (h5 : ∀ x ∈ l.take i, isD x) (hi : i < l.length) (h1 : ¬ (l.getD i 0).toNat < 48) (h2 : ¬ 57 < (l.getD i 0).toNat) : ∀ x ∈ l.take (i + 1), isD x := by
  rw [K.take_at hi]
  intro x hx
  rcases List.mem_append.1 hx with hx | hx
  · exact h5 x hx
  · rw [List.mem_singleton.1 hx]; unfold isD; omega
theorem numW_lo {l : List UInt8} {n i : Nat} (h : NumW l n i) (hi : i < l.length) (h1 : ¬ (l.getD i 0).toNat < 48) (h2 : ¬ 57 < (l.getD i 0).toNat) (h10 : i < 10) : NumW l (10 * n + ((l.getD i 0).toNat - 48)) (i + 1) := by
  obtain ⟨_, h4, h5⟩ := h
  refine ⟨hi, ?_, isD_next h5 hi h1 h2⟩
  rw [show min (i + 1) 10 = i + 1 by omega, K.take_at hi, val_snoc, h4, show min i 10 = i by omega]
theorem numW_hi {l : List UInt8} {n i : Nat} (h : NumW l n i) (hi : i < l.length) (h1 : ¬ (l.getD i 0).toNat < 48) (h2 : ¬ 57 < (l.getD i 0).toNat) (h10 : ¬ i < 10) : NumW l n (i + 1) := by
  obtain ⟨_, h4, h5⟩ := h
  exact ⟨hi, by rw [h4, show min (i + 1) 10 = min i 10 by omega], isD_next h5 hi h1 h2⟩
theorem numW_lt {l : List UInt8} {n i : Nat} (h : NumW l n i) : n < 10000000000 := by
  obtain ⟨_, h4, h5⟩ := h
  have h1 := val_lt (l.take (min i 10)) (fun x hx => h5 x (List.mem_of_mem_take (by rw [List.take_take, Nat.min_eq_left (by omega)]; exact hx : x ∈ (l.take i).take (min i 10))))
  have h2 : 10 ^ (l.take (min i 10)).length ≤ 10 ^ 10 := Nat.pow_le_pow_right (by omega) (by rw [List.length_take]; omega)
  omega
theorem numW_end {l : List UInt8} {n i : Nat} (h : NumW l n i) (hi : l.length ≤ i) : (l.length ≤ 10 → n = val l) ∧ ∀ x ∈ l, isD x := by
  obtain ⟨_, h4, h5⟩ := h
  rw [List.take_of_length_le hi] at h5
  refine ⟨fun h10 => ?_, h5⟩
  rw [h4, List.take_of_length_le (by omega)]
/-- the k-th error, and number, of words -/
def numE1 (W : List (List UInt8)) (B : List (Int × Int)) (q : Nat) : Int := (numW (W.getD q []) (B.getD q (0, 0)).1 (B.getD q (0, 0)).2).2
def numV1 (W : List (List UInt8)) (B : List (Int × Int)) (q : Nat) : Int := (numW (W.getD q []) (B.getD q (0, 0)).1 (B.getD q (0, 0)).2).1
def numsG (W : List (List UInt8)) (B : List (Int × Int)) : Nat → Nat → Int
  | 0, _ => 0
  | f + 1, j => if numE1 W B j = 0 then numsG W B f (j + 1) else numE1 W B j
def numsE (W : List (List UInt8)) (B : List (Int × Int)) : Int := if W.length = B.length then numsG W B W.length 0 else 3
def numsV (W : List (List UInt8)) (B : List (Int × Int)) : List Int := (List.range W.length).map (numV1 W B)
theorem numsG_ok {W : List (List UInt8)} {B : List (Int × Int)} : ∀ {f j : Nat}, (∀ q, j ≤ q → q < j + f → numE1 W B q = 0) → numsG W B f j = 0
  | 0, _, _ => rfl
  | f + 1, j, h => by
    unfold numsG
    rw [if_pos (h j (by omega) (by omega)), numsG_ok fun q h1 h2 => h q (by omega) (by omega)]
theorem numsG_bad {W : List (List UInt8)} {B : List (Int × Int)} {i : Nat} (hi : ¬ numE1 W B i = 0) : ∀ {f j : Nat}, (∀ q, j ≤ q → q < i → numE1 W B q = 0) → j ≤ i → i < j + f → numsG W B f j = numE1 W B i
  | 0, _, _, _, h => by omega
  | f + 1, j, h, h1, h2 => by
    unfold numsG
    by_cases hj : j = i
    · subst hj; rw [if_neg hi]
    · rw [if_pos (h j (by omega) (by omega)), numsG_bad hi (fun q h1 h2 => h q (by omega) h2) (by omega) (by omega)]
theorem numsE_len {W : List (List UInt8)} {B : List (Int × Int)} (h : ¬ W.length = B.length) : numsE W B = 3 := by unfold numsE; rw [if_neg h]
theorem numsE_ok {W : List (List UInt8)} {B : List (Int × Int)} (h : W.length = B.length) (h2 : ∀ q, q < W.length → numE1 W B q = 0) : numsE W B = 0 := by unfold numsE; rw [if_pos h]; exact numsG_ok fun q _ hq => h2 q (by omega)
theorem numsE_bad {W : List (List UInt8)} {B : List (Int × Int)} {i : Nat} (h : W.length = B.length) (h2 : ∀ q, q < i → numE1 W B q = 0) (hi : i < W.length) (h3 : ¬ numE1 W B i = 0) : numsE W B = numE1 W B i := by unfold numsE; rw [if_pos h]; exact numsG_bad h3 (fun q _ hq => h2 q hq) (by omega) (by omega)
theorem numsV_len (W : List (List UInt8)) (B : List (Int × Int)) : (numsV W B).length = W.length := by simp [numsV]
theorem numsV_next {W : List (List UInt8)} {B : List (Int × Int)} {j : Nat} : (List.range (j + 1)).map (numV1 W B) = (List.range j).map (numV1 W B) ++ [numV1 W B j] := by rw [List.range_succ, List.map_append]; rfl
def cRg (p : Int × Int) : List Value := [.int .i64 p.1, .int .i64 p.2]
end Go.Proofs.YtnehocjmgnhhhaaDoor
