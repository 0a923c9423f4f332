/- The patch between two images: plain laws. -/
import Derived.Test.YtcmlompigmhddaaFdiff
namespace Go.Proofs.Ytcmlompigmhddaa
open Go.RowKit
set_option linter.unusedVariables false
attribute [local irreducible] K.KW K.RW K.DW K.OW K.QR K.KC

def stepC (ys : List Int) (c : Chg3) : Option (List Int) := if ys.getD c.at_.toNat 0 = c.old then some (ys.set c.at_.toNat c.new) else none
def foldC (xs : List Int) : List Chg3 → Option (List Int)
  | [] => some xs
  | c :: l => (stepC xs c).bind fun ys => foldC ys l
theorem foldC_append (l m : List Chg3) : ∀ xs, foldC xs (l ++ m) = (foldC xs l).bind fun ys => foldC ys m := by
  induction l with
  | nil => intro xs; rfl
  | cons c l ih =>
    intro xs
    show (stepC xs c).bind _ = ((stepC xs c).bind _).bind _
    cases stepC xs c with
    | none => rfl
    | some ys => exact ih ys
theorem applyTo_fold (xs : List Int) (l : List Chg3) : ∀ k, k ≤ l.length → applyTo xs l k = foldC xs (l.take k)
  | 0, _ => rfl
  | k + 1, hk => by
    rw [List.take_succ_eq_append_getElem (by omega), foldC_append, ← applyTo_fold xs l k (by omega)]
    show (applyTo xs l k).bind _ = _
    congr 1
    funext ys
    have : l.getD k d3 = l[k] := by simp [List.getD_eq_getElem?_getD, List.getElem?_eq_getElem (show k < l.length by omega)]
    simp only [this, foldC, stepC]
    split <;> rfl
theorem mix_same {xs ys : List Int} {k : Nat} (hl : xs.length = ys.length) (hk : k < xs.length) (h : xs.getD k 0 = ys.getD k 0) : ys.take k ++ xs.drop k = ys.take (k + 1) ++ xs.drop (k + 1) := by
  rw [List.take_succ_eq_append_getElem (by omega), List.drop_eq_getElem_cons hk, List.append_assoc]
  simp [List.getD_eq_getElem?_getD, List.getElem?_eq_getElem hk, List.getElem?_eq_getElem (show k < ys.length by omega)] at h
  simp [h]
theorem mix_get {xs ys : List Int} {k : Nat} (hl : xs.length = ys.length) (hk : k < xs.length) : (ys.take k ++ xs.drop k).getD k 0 = xs.getD k 0 := by
  have h1 : (ys.take k).length = k := by rw [List.length_take]; omega
  rw [List.getD_eq_getElem?_getD, List.getElem?_append_right (by omega), h1, Nat.sub_self, List.getElem?_drop, Nat.add_zero, List.getD_eq_getElem?_getD]
theorem mix_set {xs ys : List Int} {k : Nat} (hl : xs.length = ys.length) (hk : k < xs.length) : (ys.take k ++ xs.drop k).set k (ys.getD k 0) = ys.take (k + 1) ++ xs.drop (k + 1) := by
  have h1 : (ys.take k).length = k := by rw [List.length_take]; omega
  rw [List.set_append_right _ _ (by omega), h1, Nat.sub_self, List.drop_eq_getElem_cons hk, List.set_cons_zero, List.take_succ_eq_append_getElem (by omega), List.append_assoc]
  simp [List.getD_eq_getElem?_getD, List.getElem?_eq_getElem (show k < ys.length by omega)]
theorem fold_between {xs ys : List Int} (hl : xs.length = ys.length) : ∀ k, k ≤ xs.length → foldC xs (between xs ys k) = some (ys.take k ++ xs.drop k)
  | 0, _ => by simp [between, foldC]
  | k + 1, hk => by
    have ih := fold_between hl k (by omega)
    by_cases h : xs.getD k 0 = ys.getD k 0
    · rw [between_eq h, ih, mix_same hl (by omega) h]
    · rw [between_ne h, foldC_append, ih]
      simp only [Option.bind_some, foldC, stepC, Int.toNat_natCast]
      rw [if_pos (mix_get hl (by omega)), mix_set hl (by omega)]
      rfl
theorem between_at {xs ys : List Int} : ∀ k, ∀ c ∈ between xs ys k, 0 ≤ c.at_ ∧ c.at_ < k ∧ ¬ c.old = c.new
  | 0, c, h => by simp [between] at h
  | k + 1, c, h => by
    by_cases he : xs.getD k 0 = ys.getD k 0
    · rw [between_eq he] at h; have := between_at k c h; omega
    · rw [between_ne he] at h
      rcases List.mem_append.1 h with h | h
      · have := between_at k c h; omega
      · simp only [List.mem_singleton] at h; subst h; exact ⟨by first | (simp; done) | (simp; omega), by first | (simp; done) | (simp; omega), he⟩
theorem getD_mem {l : List Chg3} {i : Nat} (h : i < l.length) : l.getD i d3 ∈ l := by
  rw [List.getD_eq_getElem?_getD, List.getElem?_eq_getElem h]; exact List.getElem_mem h
theorem getD_app_l {l m : List Chg3} {i : Nat} (h : i < l.length) : (l ++ m).getD i d3 = l.getD i d3 := by
  rw [List.getD_eq_getElem?_getD, List.getElem?_append_left h, List.getD_eq_getElem?_getD]
theorem getD_app_r {l : List Chg3} {c : Chg3} : (l ++ [c]).getD l.length d3 = c := by
  rw [List.getD_eq_getElem?_getD, List.getElem?_append_right (Nat.le_refl _)]; simp
theorem right_snoc {l : List Chg3} {c : Chg3} (h : rightTo l l.length) (hc : 0 ≤ c.at_ ∧ ¬ c.old = c.new) (hl : ∀ d ∈ l, d.at_ < c.at_) : rightTo (l ++ [c]) (l ++ [c]).length := fun i hi => by
  rw [List.length_append, List.length_singleton] at hi
  by_cases hil : i < l.length
  · have h1 := h i hil
    unfold rightAt at h1 ⊢
    rw [getD_app_l hil, getD_app_l (by omega)]
    exact h1
  · obtain rfl : i = l.length := by omega
    unfold rightAt
    rw [getD_app_r]
    refine ⟨by omega, hc.2, fun ⟨h0, h1⟩ => ?_⟩
    rw [getD_app_l (by omega)] at h1
    have := hl _ (getD_mem (l := l) (i := l.length - 1) (by omega))
    omega
theorem right_between (xs ys : List Int) : ∀ k, rightTo (between xs ys k) (between xs ys k).length
  | 0 => fun i h => by simp [between] at h
  | k + 1 => by
    by_cases he : xs.getD k 0 = ys.getD k 0
    · rw [between_eq he]; exact right_between xs ys k
    · rw [between_ne he]
      exact right_snoc (right_between xs ys k) ⟨by first | (simp; done) | (simp; omega), he⟩ fun d hd => by have := between_at k d hd; simp; omega
theorem right_of {l : List Chg3} (h : rightTo l l.length) : right l = true := decide_eq_true (p := ∀ i, i < l.length → rightAt l i) h
theorem apply_between {xs ys : List Int} (hl : xs.length = ys.length) : apply xs (between xs ys xs.length) = (0, ys) := by
  refine apply_0 (right_of (right_between xs ys _)) (fun ⟨h1, h2⟩ => ?_) ?_
  · have := between_at _ _ (getD_mem (l := between xs ys xs.length) (i := (between xs ys xs.length).length - 1) (by omega))
    omega
  · rw [applyTo_fold _ _ _ (Nat.le_refl _), List.take_length, fold_between hl _ (Nat.le_refl _), hl, List.take_length, ← hl, List.drop_length, List.append_nil]
theorem back_between (xs ys : List Int) : ∀ k, (between xs ys k).map back1 = between ys xs k
  | 0 => rfl
  | k + 1 => by
    by_cases he : xs.getD k 0 = ys.getD k 0
    · rw [between_eq he, between_eq he.symm, back_between xs ys k]
    · rw [between_ne he, between_ne (fun h => he h.symm), List.map_append, back_between xs ys k]; rfl
theorem apply_back {xs ys : List Int} (hl : xs.length = ys.length) : apply ys ((between xs ys xs.length).map back1) = (0, xs) := by
  rw [back_between, hl]; exact apply_between hl.symm
theorem between_mono (xs ys : List Int) {k : Nat} : ∀ m, (between xs ys k).length ≤ (between xs ys (k + m)).length
  | 0 => Nat.le_refl _
  | m + 1 => by
    refine Nat.le_trans (between_mono xs ys m) ?_
    show _ ≤ (between xs ys ((k + m) + 1)).length
    by_cases he : xs.getD (k + m) 0 = ys.getD (k + m) 0
    · rw [between_eq he]; exact Nat.le_refl _
    · rw [between_ne he, List.length_append]; omega
theorem between_get {xs ys : List Int} {k : Nat} (h : ¬ xs.getD k 0 = ys.getD k 0) : ∀ m, (between xs ys (k + 1 + m)).getD (between xs ys k).length d3 = ⟨k, xs.getD k 0, ys.getD k 0⟩ ∧ (between xs ys k).length < (between xs ys (k + 1 + m)).length
  | 0 => by rw [Nat.add_zero, between_ne h]; exact ⟨getD_app_r, by rw [List.length_append]; simp⟩
  | m + 1 => by
    obtain ⟨h1, h2⟩ := between_get h m
    show (between xs ys ((k + 1 + m) + 1)).getD _ _ = _ ∧ _ < (between xs ys ((k + 1 + m) + 1)).length
    by_cases he : xs.getD (k + 1 + m) 0 = ys.getD (k + 1 + m) 0
    · rw [between_eq he]; exact ⟨h1, h2⟩
    · rw [between_ne he]
      exact ⟨by rw [getD_app_l h2]; exact h1, by rw [List.length_append]; omega⟩
theorem between_at_k {xs ys : List Int} {k N : Nat} (hk : k < N) (h : ¬ xs.getD k 0 = ys.getD k 0) : (between xs ys N).getD (between xs ys k).length d3 = ⟨k, xs.getD k 0, ys.getD k 0⟩ ∧ (between xs ys k).length < (between xs ys N).length := by
  have := between_get h (N - (k + 1))
  rwa [show k + 1 + (N - (k + 1)) = N by omega] at this

end Go.Proofs.Ytcmlompigmhddaa
