import Derived.Test.YtnehocjmgnhhhaaFmod3
/- The plain laws of the model: lists whose keys rise, their keys put in and taken out. -/
namespace Go.Proofs.Ytnehocjmgnhhhaa
open Go.RowKit
set_option linter.unusedVariables false
attribute [local irreducible] K.KW K.RW K.DW K.OW K.QR K.KC
section
variable {α : Type} {f : α → Int} {k : Int}
def Rises (f : α → Int) (xs : List α) : Prop := xs.Pairwise fun x y => f x < f y
theorem rises_of {ks : List Int} (h : rising ks) : ks.Pairwise (· < ·) := by
 rw [List.pairwise_iff_getElem]
 intro i j hi hj hij
 have := rising_lt h hij hj
 simpa [hi, hj] using this
theorem rising_of {ks : List Int} (h : ks.Pairwise (· < ·)) : rising ks := fun i hi => by
 have := List.pairwise_iff_getElem.1 h i (i + 1) (by omega) hi (by omega)
 simpa [show i < ks.length by omega, hi] using this
theorem Rises.map {xs : List α} : Rises f xs ↔ (xs.map f).Pairwise (· < ·) := by unfold Rises; rw [List.pairwise_map]
theorem Rises.rising {xs : List α} : Rises f xs ↔ rising (xs.map f) := Rises.map.trans ⟨rising_of, rises_of⟩
def putT (f : α → Int) (xs : List α) (k : Int) (x : α) : List α := xs.takeWhile (fun y => decide (f y < k)) ++ x :: xs.dropWhile (fun y => decide (f y < k))
theorem take_pos (xs : List α) : xs.take (posT (xs.map f) k) = xs.takeWhile (fun y => decide (f y < k)) := by
 unfold posT
 induction xs with
 | nil => rfl
 | cons y ys ih =>
  rw [List.map_cons, List.takeWhile_cons, List.takeWhile_cons]
  split
  ·rw [List.length_cons, List.take_succ_cons, ih]
  ·rfl
theorem drop_pos (xs : List α) : xs.drop (posT (xs.map f) k) = xs.dropWhile (fun y => decide (f y < k)) := by
 unfold posT
 induction xs with
 | nil => rfl
 | cons y ys ih =>
  rw [List.map_cons, List.takeWhile_cons, List.dropWhile_cons]
  split
  ·rw [List.length_cons, List.drop_succ_cons, ih]
  ·rfl
theorem ins_put (xs : List α) (x : α) : insT xs (posT (xs.map f) k) x = putT f xs k x := by unfold insT putT; rw [take_pos, drop_pos]
def getT (f : α → Int) (xs : List α) (k : Int) : Option α := xs.find? (fun y => decide (f y = k))
def cutT (f : α → Int) (xs : List α) (k : Int) : List α := xs.filter (fun y => decide (f y ≠ k))
theorem getT_lt {y : α} {ys : List α} (h : ¬ f y = k) : getT f (y :: ys) k = getT f ys k := by unfold getT; rw [List.find?_cons, decide_eq_false h]
theorem getT_eq {y : α} {ys : List α} (h : f y = k) : getT f (y :: ys) k = some y := by unfold getT; rw [List.find?_cons, decide_eq_true h]
theorem tw_lt : ∀ (xs : List α), ∀ y ∈ xs.takeWhile (fun y => decide (f y < k)), f y < k
 | [], y, h => by cases h
 | z :: zs, y, h => by
  rw [List.takeWhile_cons] at h
  split at h
  ·rename_i hz
   rcases List.mem_cons.1 h with rfl | h
   ·simpa using hz
   ·exact tw_lt zs y h
  ·cases h
theorem pos_lt {a : Int} {L : List Int} (h : a < k) : posT (a :: L) k = posT L k + 1 := by unfold posT; rw [List.takeWhile_cons, if_pos (by simpa using h)]; rfl
theorem pos_ge {a : Int} {L : List Int} (h : ¬ a < k) : posT (a :: L) k = 0 := by unfold posT; rw [List.takeWhile_cons, if_neg (by simpa using h)]; rfl
theorem has_lt {a : Int} {L : List Int} (h : a < k) : hasT (a :: L) k = hasT L k := by unfold hasT; rw [pos_lt h]; simp
theorem has_ge {a : Int} {L : List Int} (h : ¬ a < k) : hasT (a :: L) k = decide (a = k) := by unfold hasT; rw [pos_ge h]; simp
theorem getT_none {xs : List α} (h : getT f xs k = none) : ∀ x ∈ xs, f x ≠ k := fun x hx e => by
 have := List.find?_eq_none.1 h x hx
 exact this (decide_eq_true e)
theorem cutT_rises {xs : List α} (h : Rises f xs) : Rises f (cutT f xs k) := h.sublist List.filter_sublist
theorem dw_ge {xs : List α} (h : Rises f xs) : ∀ y ∈ xs.dropWhile (fun y => decide (f y < k)), k ≤ f y := by
 induction xs with
 | nil => intro y hy; cases hy
 | cons z zs ih =>
  have h2 := List.pairwise_cons.1 h
  intro y hy
  rw [List.dropWhile_cons] at hy
  split at hy
  ·exact ih h2.2 y hy
  ·rename_i hz
   have hz : k ≤ f z := by simp at hz; omega
   rcases List.mem_cons.1 hy with rfl | hy
   ·exact hz
   ·have := h2.1 y hy; omega
theorem putT_rises {xs : List α} {x : α} (h : Rises f xs) (hx : f x = k) (hn : getT f xs k = none) : Rises f (putT f xs k x) := by
 unfold putT
 have hs := h
 unfold Rises at hs ⊢
 conv at hs => arg 2; rw [← List.takeWhile_append_dropWhile (p := fun y => decide (f y < k)) (l := xs)]
 have h3 := List.pairwise_append.1 hs
 refine List.pairwise_append.2 ⟨h3.1, List.pairwise_cons.2 ⟨?_, h3.2.1⟩, ?_⟩
 ·intro y hy
  have h4 := dw_ge h y hy
  have h5 := getT_none hn y ((List.dropWhile_sublist _).subset hy)
  omega
 ·intro y hy z hz
  have h4 := tw_lt xs y hy
  rcases List.mem_cons.1 hz with rfl | hz
  ·omega
  ·have := dw_ge h z hz; omega
theorem get_above {y : α} {ys : List α} (h : ∀ z ∈ ys, f y < f z) (hk : ¬ f y < k) : getT f ys k = none := List.find?_eq_none.2 fun z hz => by have := h z hz; simp; omega
theorem has_get {xs : List α} (h : Rises f xs) : hasT (xs.map f) k = (getT f xs k).isSome := by
 induction xs with
 | nil => rfl
 | cons y ys ih =>
  have h2 := List.pairwise_cons.1 h
  rw [List.map_cons]
  by_cases h1 : f y < k
  ·rw [has_lt h1, getT_lt (by omega), ih h2.2]
  ·rw [has_ge h1]
   by_cases h3 : f y = k
   ·rw [getT_eq h3, decide_eq_true h3]; rfl
   ·rw [getT_lt h3, get_above h2.1 h1, decide_eq_false h3]; rfl
theorem at_get {xs : List α} (h : Rises f xs) (d : α) {x : α} (hx : getT f xs k = some x) : xs.getD (posT (xs.map f) k) d = x := by
 induction xs with
 | nil => simp [getT] at hx
 | cons y ys ih =>
  have h2 := List.pairwise_cons.1 h
  rw [List.map_cons]
  by_cases h1 : f y < k
  ·rw [getT_lt (by omega)] at hx
   rw [pos_lt h1, List.getD_cons_succ, ih h2.2 hx]
  ·by_cases h3 : f y = k
   ·rw [getT_eq h3] at hx; cases hx
    rw [pos_ge h1]; rfl
   ·rw [getT_lt h3, get_above h2.1 h1] at hx; cases hx
theorem cutT_above {y : α} {ys : List α} (h : ∀ z ∈ ys, f y < f z) (hk : ¬ f y < k) : cutT f ys k = ys := List.filter_eq_self.2 fun z hz => by have := h z hz; simp; omega
theorem del_cut {xs : List α} (h : Rises f xs) (hs : (getT f xs k).isSome = true) : delT xs (posT (xs.map f) k) = cutT f xs k := by
 induction xs with
 | nil => simp [getT] at hs
 | cons y ys ih =>
  have h2 := List.pairwise_cons.1 h
  rw [List.map_cons]
  by_cases h1 : f y < k
  ·rw [getT_lt (by omega)] at hs
   have e : cutT f (y :: ys) k = y :: cutT f ys k := by unfold cutT; rw [List.filter_cons, if_pos (by simp; omega)]
   rw [pos_lt h1, e, ← ih h2.2 hs]; rfl
  ·by_cases h3 : f y = k
   ·have e : cutT f (y :: ys) k = cutT f ys k := by unfold cutT; rw [List.filter_cons, if_neg (by simp [h3])]
    rw [pos_ge h1, e, cutT_above h2.1 h1]; rfl
   ·rw [getT_lt h3, get_above h2.1 h1] at hs; cases hs
/-! ### the document's way: lists gone through from their beginning -/
def kstep (f : α → Int) (k : Int) (x : α) (p : List α × Bool) (y : α) : List α × Bool :=
 ((if p.2 = false ∧ k < f y then p.1 ++ [x] else p.1) ++ (if f y = k then [] else [y]), p.2 || decide (k < f y))
def keysF (f : α → Int) (k : Int) (x : α) (there : Bool) (xs : List α) : List α × Bool := xs.foldl (kstep f k x) ([], !there)
def keysR (f : α → Int) (k : Int) (x : α) (there : Bool) (xs : List α) : List α := if (keysF f k x there xs).2 then (keysF f k x there xs).1 else (keysF f k x there xs).1 ++ [x]
theorem fold_done (x : α) : ∀ (xs o : List α), xs.foldl (kstep f k x) (o, true) = (o ++ cutT f xs k, true)
 | [], o => by simp [cutT]
 | y :: ys, o => by
  rw [List.foldl_cons]
  have : kstep f k x (o, true) y = (o ++ (if f y = k then [] else [y]), true) := by simp [kstep]
  rw [this, fold_done x ys]
  unfold cutT
  rw [List.filter_cons]
  by_cases h : f y = k
  ·rw [if_pos h, if_neg (by simp [h])]; simp
  ·rw [if_neg h, if_pos (by simp [h])]; simp
theorem fold_open (x : α) : ∀ (xs o : List α), (∀ y ∈ xs, f y ≠ k) → (if (xs.foldl (kstep f k x) (o, false)).2 then (xs.foldl (kstep f k x) (o, false)).1 else (xs.foldl (kstep f k x) (o, false)).1 ++ [x]) = o ++ putT f xs k x
 | [], o, _ => by simp [putT]
 | y :: ys, o, h => by
  rw [List.foldl_cons]
  have hy := h y (by simp)
  unfold putT
  rw [List.takeWhile_cons, List.dropWhile_cons]
  by_cases h1 : f y < k
  ·have : kstep f k x (o, false) y = (o ++ [y], false) := by simp [kstep, hy]; omega
   rw [this, fold_open x ys (o ++ [y]) (fun z hz => h z (by simp [hz])), decide_eq_true h1]
   simp [putT]
  ·have : kstep f k x (o, false) y = (o ++ [x] ++ [y], true) := by
    have h2 : k < f y := by omega
    simp [kstep, hy, h2]
   rw [this, fold_done, decide_eq_false h1]
   have : cutT f ys k = ys := List.filter_eq_self.2 fun z hz => by have := h z (by simp [hz]); simp [this]
   simp [this]
theorem keysR_cut (xs : List α) (x : α) : keysR f k x false xs = cutT f xs k := by unfold keysR keysF; rw [Bool.not_false, fold_done]; simp
theorem keysR_put {xs : List α} {x : α} (h : getT f xs k = none) : keysR f k x true xs = putT f xs k x := by unfold keysR keysF; rw [Bool.not_true, fold_open x xs [] (getT_none h)]; simp
theorem keysF_succ {x d : α} {b : Bool} {xs : List α} {j : Nat} (h : j < xs.length) : keysF f k x b (xs.take (j + 1)) = kstep f k x (keysF f k x b (xs.take j)) (xs.getD j d) := by
 unfold keysF
 rw [List.take_succ_eq_append_getElem h, List.foldl_append]
 simp [h]
def anyT (f : α → Int) (k : Int) (xs : List α) : Bool := xs.any fun y => decide (f y = k)
theorem anyT_get (xs : List α) : anyT f k xs = (getT f xs k).isSome := by
 unfold anyT getT
 induction xs with
 | nil => rfl
 | cons y ys ih =>
  rw [List.any_cons, List.find?_cons, ih]
  by_cases h : f y = k
  ·rw [decide_eq_true h]; rfl
  ·rw [decide_eq_false h]; rfl
theorem anyT_succ {d : α} {xs : List α} {j : Nat} (h : j < xs.length) : anyT f k (xs.take (j + 1)) = (anyT f k (xs.take j) || decide (f (xs.getD j d) = k)) := by
 unfold anyT
 rw [List.take_succ_eq_append_getElem h, List.any_append]
 simp [h]
def lastT (f : α → Int) (k : Int) (d : α) (xs : List α) : α := xs.foldl (fun v y => if f y = k then y else v) d
theorem lastT_succ {e d : α} {xs : List α} {j : Nat} (h : j < xs.length) : lastT f k e (xs.take (j + 1)) = if f (xs.getD j d) = k then xs.getD j d else lastT f k e (xs.take j) := by
 unfold lastT
 rw [List.take_succ_eq_append_getElem h, List.foldl_append]
 simp [h]
theorem lastT_no {xs : List α} (h : ∀ y ∈ xs, f y ≠ k) (d : α) : lastT f k d xs = d := by
 unfold lastT
 induction xs with
 | nil => rfl
 | cons y ys ih =>
  rw [List.foldl_cons, if_neg (h y (by simp))]
  exact ih fun z hz => h z (by simp [hz])
theorem lastT_get {xs : List α} (h : Rises f xs) (d : α) : lastT f k d xs = (getT f xs k).getD d := by
 induction xs generalizing d with
 | nil => rfl
 | cons y ys ih =>
  have h2 := List.pairwise_cons.1 h
  unfold lastT getT
  rw [List.foldl_cons, List.find?_cons]
  by_cases h1 : f y = k
  ·rw [decide_eq_true h1, if_pos h1]
   have : lastT f k y ys = y := lastT_no (fun z hz => by have := h2.1 z hz; omega) y
   exact this
  ·rw [decide_eq_false h1, if_neg h1]
   exact ih h2.2 d
end
end Go.Proofs.Ytnehocjmgnhhhaa
