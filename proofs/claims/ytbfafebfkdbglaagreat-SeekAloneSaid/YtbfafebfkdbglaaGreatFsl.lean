/- slices and cmp over keys and pairs: Compare, BinarySearchFunc, Equal, Clone. -/
import Derived.Test.YtbfafebfkdbglaaGreatFlist
import Derived.Test.YtbfafebfkdbglaaGreatKw
namespace Go.Proofs.YtbfafebfkdbglaaGreat
open Go.RowKit
set_option linter.unusedVariables false
attribute [local irreducible] K.KW K.RW K.DW K.OW K.QR K.KC
structure PairM where
 key : Int
 val : Int
 deriving DecidableEq
def p0 : PairM := ⟨0, 0⟩
/-- cmp.Compare -/
def cmpI (x y : Int) : Int := if x < y then -1 else if x > y then 1 else 0
theorem cmpI_lt {x y : Int} : cmpI x y < 0 ↔ x < y := by unfold cmpI; split <;> (try split) <;> omega
theorem cmpI_eq {x y : Int} : cmpI x y = 0 ↔ x = y := by unfold cmpI; split <;> (try split) <;> omega
/-- do the keys rise? -/
def rising (ks : List Int) : Prop := ∀ i, i + 1 < ks.length → ks.getD i 0 < ks.getD (i + 1) 0
theorem rising_lt {ks : List Int} (h : rising ks) : ∀ {i j : Nat}, i < j → j < ks.length → ks.getD i 0 < ks.getD j 0 := by
 intro i j hij
 induction j with
 | zero => omega
 | succ j ih =>
  intro hj
  by_cases he : i = j
  ·subst he; exact h i hj
  ·exact Int.lt_trans (ih (by omega) (by omega)) (h j hj)
/-- how far the keys are less -/
def posT (ks : List Int) (k : Int) : Nat := (ks.takeWhile (fun x => decide (x < k))).length
theorem posT_of {ks : List Int} {k : Int} {i : Nat} (hi : i ≤ ks.length) (h1 : ∀ q, q < i → ks.getD q 0 < k) (h2 : i < ks.length → ¬ ks.getD i 0 < k) : posT ks k = i := by
 unfold posT
 induction ks generalizing i with
 | nil => simp at hi; subst hi; rfl
 | cons x ks ih =>
  cases i with
  | zero =>
   have := h2 (by simp)
   simp at this
   rw [List.takeWhile_cons_of_neg (by simpa using this)]; rfl
  | succ i =>
   have hx := h1 0 (by omega)
   simp at hx
   rw [List.takeWhile_cons_of_pos (by simpa using hx), List.length_cons, ih (i := i) (by simpa using hi) (fun q hq => by have := h1 (q + 1) (by omega); simpa using this) (fun hl => by have := h2 (by simpa using hl); simpa using this)]
def hasT (ks : List Int) (k : Int) : Bool := decide (posT ks k < ks.length ∧ ks.getD (posT ks k) 0 = k)
def insT {α : Type} (xs : List α) (i : Nat) (x : α) : List α := xs.take i ++ x :: xs.drop i
theorem insT_len {α : Type} {xs : List α} {i : Nat} {x : α} (h : i ≤ xs.length) : (insT xs i x).length = xs.length + 1 := by unfold insT; simp; omega
theorem bs_loU {ks : List Int} {k : Int} {h : Nat} (hr : rising ks) (hl : h < ks.length) (hc : cmpI (ks.getD h 0) k < 0) : ∀ q, q < h + 1 → ks.getD q 0 < k := by
 intro q hq
 have h1 := cmpI_lt.1 hc
 rcases Nat.lt_or_ge q h with h2 | h2
 ·exact Int.lt_trans (rising_lt hr h2 hl) h1
 ·rw [show q = h by omega]; exact h1
theorem bs_hiU {ks : List Int} {k : Int} {h : Nat} (hr : rising ks) (hl : h < ks.length) (hc : ¬ cmpI (ks.getD h 0) k < 0) : ∀ q, h ≤ q → q < ks.length → ¬ ks.getD q 0 < k := by
 intro q hq hq2
 have h1 : ¬ ks.getD h 0 < k := fun h => hc (cmpI_lt.2 h)
 rcases Nat.lt_or_ge h q with h2 | h2
 ·have := rising_lt hr h2 hq2; omega
 ·rw [show q = h by omega]; exact h1
theorem bs_endU {xs : List Int} {k : Int} {i j : Nat} (hj : j ≤ i) (hi : i ≤ xs.length) (h1 : ∀ q, q < i → xs.getD q 0 < k) (h2 : ∀ q, j ≤ q → q < xs.length → ¬ xs.getD q 0 < k) : posT xs k = i := posT_of hi h1 fun h => h2 i hj h
theorem hasU_t {xs : List Int} {k : Int} {i : Nat} (hp : posT xs k = i) (hi : i < xs.length) (hc : cmpI (xs.getD i 0) k = 0) : true = hasT xs k := by unfold hasT; rw [hp]; exact (decide_eq_true ⟨hi, cmpI_eq.1 hc⟩).symm
theorem hasU_f {xs : List Int} {k : Int} {i : Nat} (hp : posT xs k = i) (hc : ¬ cmpI (xs.getD i 0) k = 0) : false = hasT xs k := by unfold hasT; rw [hp]; exact (decide_eq_false fun h => hc (cmpI_eq.2 h.2)).symm
theorem hasU_n {xs : List Int} {k : Int} {i : Nat} (hp : posT xs k = i) (hi : ¬ i < xs.length) : false = hasT xs k := by unfold hasT; rw [hp]; exact (decide_eq_false fun h => hi h.1).symm
end Go.Proofs.YtbfafebfkdbglaaGreat
