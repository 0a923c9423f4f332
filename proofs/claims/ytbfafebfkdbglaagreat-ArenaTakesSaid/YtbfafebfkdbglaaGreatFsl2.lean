import Derived.Test.YtbfafebfkdbglaaGreatFlist
import Derived.Test.YtbfafebfkdbglaaGreatKw
import Derived.Lib.Overlaps
import Derived.Laws.Externs
import Derived.Test.YtbfafebfkdbglaaGreatKv
/- slices and cmp over keys and pairs: Compare, BinarySearchFunc, Equal, Clone. -/
namespace Go.Proofs.YtbfafebfkdbglaaGreat
open Go.RowKit
set_option linter.unusedVariables false
attribute [local irreducible] K.KW K.RW K.DW K.OW K.QR K.KC
structure PairM where
 key : Int
 val : Int
 deriving DecidableEq
def p0 : PairM := ⟨0, 0⟩
/-- cmp.Compare -/
def cmpI (x y : Int) : Int := if x < y then -1 else if x > y then 1 else 0
theorem cmpI_lt {x y : Int} : cmpI x y < 0 ↔ x < y := by unfold cmpI; split <;> (try split) <;> omega
theorem cmpI_eq {x y : Int} : cmpI x y = 0 ↔ x = y := by unfold cmpI; split <;> (try split) <;> omega
/-- do the keys rise? -/
def rising (ks : List Int) : Prop := ∀ i, i + 1 < ks.length → ks.getD i 0 < ks.getD (i + 1) 0
theorem rising_lt {ks : List Int} (h : rising ks) : ∀ {i j : Nat}, i < j → j < ks.length → ks.getD i 0 < ks.getD j 0 := by
 intro i j hij
 induction j with
 | zero => omega
 | succ j ih =>
  intro hj
  by_cases he : i = j
  ·subst he; exact h i hj
  ·exact Int.lt_trans (ih (by omega) (by omega)) (h j hj)
/-- how far the keys are less -/
def posT (ks : List Int) (k : Int) : Nat := (ks.takeWhile (fun x => decide (x < k))).length
theorem posT_of {ks : List Int} {k : Int} {i : Nat} (hi : i ≤ ks.length) (h1 : ∀ q, q < i → ks.getD q 0 < k) (h2 : i < ks.length → ¬ ks.getD i 0 < k) : posT ks k = i := by
 unfold posT
 induction ks generalizing i with
 | nil => simp at hi; subst hi; rfl
 | cons x ks ih =>
  cases i with
  | zero =>
   have := h2 (by simp)
   simp at this
   rw [List.takeWhile_cons_of_neg (by simpa using this)]; rfl
  | succ i =>
   have hx := h1 0 (by omega)
   simp at hx
   rw [List.takeWhile_cons_of_pos (by simpa using hx), List.length_cons, ih (i := i) (by simpa using hi) (fun q hq => by have := h1 (q + 1) (by omega); simpa using this) (fun hl => by have := h2 (by simpa using hl); simpa using this)]
def hasT (ks : List Int) (k : Int) : Bool := decide (posT ks k < ks.length ∧ ks.getD (posT ks k) 0 = k)
def insT {α : Type} (xs : List α) (i : Nat) (x : α) : List α := xs.take i ++ x :: xs.drop i
theorem insT_len {α : Type} {xs : List α} {i : Nat} {x : α} (h : i ≤ xs.length) : (insT xs i x).length = xs.length + 1 := by unfold insT; simp; omega
theorem bs_loU {ks : List Int} {k : Int} {h : Nat} (hr : rising ks) (hl : h < ks.length) (hc : cmpI (ks.getD h 0) k < 0) : ∀ q, q < h + 1 → ks.getD q 0 < k := by
 intro q hq
 have h1 := cmpI_lt.1 hc
 rcases Nat.lt_or_ge q h with h2 | h2
 ·exact Int.lt_trans (rising_lt hr h2 hl) h1
 ·rw [show q = h by omega]; exact h1
theorem bs_hiU {ks : List Int} {k : Int} {h : Nat} (hr : rising ks) (hl : h < ks.length) (hc : ¬ cmpI (ks.getD h 0) k < 0) : ∀ q, h ≤ q → q < ks.length → ¬ ks.getD q 0 < k := by
 intro q hq hq2
 have h1 : ¬ ks.getD h 0 < k := fun h => hc (cmpI_lt.2 h)
 rcases Nat.lt_or_ge h q with h2 | h2
 ·have := rising_lt hr h2 hq2; omega
 ·rw [show q = h by omega]; exact h1
theorem bs_endU {xs : List Int} {k : Int} {i j : Nat} (hj : j ≤ i) (hi : i ≤ xs.length) (h1 : ∀ q, q < i → xs.getD q 0 < k) (h2 : ∀ q, j ≤ q → q < xs.length → ¬ xs.getD q 0 < k) : posT xs k = i := posT_of hi h1 fun h => h2 i hj h
theorem hasU_t {xs : List Int} {k : Int} {i : Nat} (hp : posT xs k = i) (hi : i < xs.length) (hc : cmpI (xs.getD i 0) k = 0) : true = hasT xs k := by unfold hasT; rw [hp]; exact (decide_eq_true ⟨hi, cmpI_eq.1 hc⟩).symm
theorem hasU_f {xs : List Int} {k : Int} {i : Nat} (hp : posT xs k = i) (hc : ¬ cmpI (xs.getD i 0) k = 0) : false = hasT xs k := by unfold hasT; rw [hp]; exact (decide_eq_false fun h => hc (cmpI_eq.2 h.2)).symm
theorem hasU_n {xs : List Int} {k : Int} {i : Nat} (hp : posT xs k = i) (hi : ¬ i < xs.length) : false = hasT xs k := by unfold hasT; rw [hp]; exact (decide_eq_false fun h => hi h.1).symm
end Go.Proofs.YtbfafebfkdbglaaGreat

/- slices.Insert and Delete over keys and pairs. -/
namespace Go.Proofs.YtbfafebfkdbglaaGreat
open Go.RowKit
set_option linter.unusedVariables false
attribute [local irreducible] K.KW K.RW K.DW K.OW K.QR K.KC
/-- slices.overlaps of rows in two blocks -/
theorem QR.overlaps {n : Nat} {F : K.Fr} {w : World} {o : Oper} {x y : Operand} {f : FuncId} {ats : Array TypeId} {va g off la ca lb cb : Nat} {yp : Option Addr}
  (ho : o.op = .call { callee := .value (.func f), args := #[x, y], argTypes := ats }) (hx : K.ev n F x = .slice (some ⟨va, 0, none⟩) la ca) (hy : K.ev n F y = .slice yp lb cb) (hp : yp = some ⟨g, off, none⟩)
  (hrun : (callFunc f #[.slice (some ⟨va, 0, none⟩) la ca, .slice (some ⟨g, off, none⟩) lb cb]).run Tryz.prog w = .ok (.value (.bool false)) w) : K.QR Tryz.prog n F o (.bool false) w := by
 subst hp
 unfold K.QR execOp
 rw [ho]
 have hf : K.ev n F (.func f) = .func (.func f) #[] #[] := rfl
 simp [resolve, Deferred.ofValue, invoke, hx, hy, hf, hrun]
theorem shift_ltG {g n k sz : Nat} (h : k < n) : K.shift (some ⟨g, 0, none⟩) n k sz = some ⟨g, k * sz, none⟩ := by
 unfold K.shift
 rw [if_neg (by omega)]
 simp only [Option.map_some, Addr.add]
 split <;> simp_all
section
variable {α : Type} {c : α → List Value} {size : Nat}
theorem ins_cellsB (hc : ∀ x, (c x).length = size) (xs : List α) (x : α) {i : Nat} (hi : i ≤ xs.length) {zs : List Value} (hz : zs.length = (xs.length + 1 - i) * size) {Y1 : List Value}
  (h1 : Y1 = ((xs.take i).flatMap c ++ zs).take (i * size) ++ ([x].flatMap c ++ ((xs.take i).flatMap c ++ zs).drop ((i + 1) * size))) :
  Y1.take ((i + 1) * size) ++ ((xs.flatMap c).drop (i * size) ++ Y1.drop ((i + 1 + (xs.length - i)) * size)) = (xs.take i ++ x :: xs.drop i).flatMap c := by
 obtain ⟨k, hk⟩ : ∃ k, xs.length = i + k := ⟨xs.length - i, by omega⟩
 have hA : ((xs.take i).flatMap c).length = i * size := by rw [K.fl_len hc, List.length_take, Nat.min_eq_left hi]
 have hX : ([x].flatMap c).length = size := by rw [K.fl_len hc]; simp
 rw [hk, show i + k + 1 - i = k + 1 by omega, Nat.succ_mul] at hz
 have e1 : ((xs.take i).flatMap c ++ zs).take (i * size) = (xs.take i).flatMap c := by rw [List.take_append_of_le_length (by omega), List.take_of_length_le (by omega)]
 have e2 : ((xs.take i).flatMap c ++ zs).drop ((i + 1) * size) = zs.drop size := by rw [List.drop_append, hA, Nat.succ_mul, List.drop_of_length_le (by omega), Nat.add_sub_cancel_left, List.nil_append]
 rw [e1, e2] at h1
 have hl : (zs.drop size).length = k * size := by rw [List.length_drop]; omega
 have hAX : ((xs.take i).flatMap c ++ [x].flatMap c).length = (i + 1) * size := by rw [List.length_append, hA, hX, Nat.succ_mul]
 rw [← List.append_assoc] at h1
 rw [h1, List.take_append_of_le_length (by omega), List.take_of_length_le (by omega), List.drop_of_length_le (l := _ ++ _) (by rw [List.length_append, hAX, hl, hk, show i + k - i = k by omega, ← Nat.add_mul]; exact Nat.le_refl _), List.append_nil, K.fl_drop hc, ← List.flatMap_append, ← List.flatMap_append]
 simp
theorem ins_cellsC (hc : ∀ x, (c x).length = size) (xs : List α) (x : α) {i : Nat} (hi : i ≤ xs.length) {us : List Value} (hu : us.length = size) {Y1 : List Value}
  (h1 : Y1 = (xs.flatMap c ++ us).take ((i + 1) * size) ++ ((xs.flatMap c).drop (i * size) ++ (xs.flatMap c ++ us).drop ((i + 1 + (xs.length - i)) * size))) :
  Y1.take (i * size) ++ ([x].flatMap c ++ Y1.drop ((i + 1) * size)) = (xs.take i ++ x :: xs.drop i).flatMap c := by
 obtain ⟨k, hk⟩ : ∃ k, xs.length = i + k := ⟨xs.length - i, by omega⟩
 have hF : (xs.flatMap c).length = i * size + k * size := by rw [K.fl_len hc, hk, Nat.add_mul]
 have hD : ((xs.flatMap c).drop (i * size)).length = k * size := by rw [List.length_drop]; omega
 have hFu : (xs.flatMap c ++ us).length = i * size + k * size + size := by rw [List.length_append, hF, hu]
 have e3 : (xs.flatMap c ++ us).drop ((i + 1 + (xs.length - i)) * size) = [] := List.drop_of_length_le (by rw [hFu, hk, show i + k - i = k by omega, Nat.add_mul, Nat.succ_mul]; omega)
 rw [e3, List.append_nil] at h1
 have hT : ((xs.flatMap c ++ us).take ((i + 1) * size)).length = (i + 1) * size := by rw [List.length_take, hFu, Nat.succ_mul]; exact Nat.min_eq_left (by omega)
 have e4 : Y1.drop ((i + 1) * size) = (xs.flatMap c).drop (i * size) := by rw [h1, List.drop_append, hT, List.drop_of_length_le (by omega), Nat.sub_self, List.drop_zero, List.nil_append]
 have e5 : Y1.take (i * size) = (xs.take i).flatMap c := by
  rw [h1, List.take_append_of_le_length (by rw [hT, Nat.succ_mul]; omega), List.take_take, Nat.min_eq_left (by rw [Nat.succ_mul]; omega), List.take_append_of_le_length (by omega), K.fl_take hc]
 rw [e4, e5, K.fl_drop hc, ← List.flatMap_append, ← List.flatMap_append]
 simp
end
end Go.Proofs.YtbfafebfkdbglaaGreat
